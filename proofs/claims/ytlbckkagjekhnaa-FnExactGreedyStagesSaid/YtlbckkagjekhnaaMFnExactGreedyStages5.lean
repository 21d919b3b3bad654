/- What the row of the law FnExactGreedyStages stands on, part 5. -/
import Derived.Test.YtlbckkagjekhnaaMFnExactGreedyStages4
namespace Go.Proofs.Ytlbckkagjekhnaa.A
open Go.RowKit Go.Proofs.YtlbckkagjekhnaaW.PrintWords Go.Proofs.YtlbckkagjekhnaaW.PrintLast Go.Proofs.YtlbckkagjekhnaaW.PrintMore
set_option linter.unusedVariables false
set_option linter.unusedSimpArgs false
abbrev kQ : Kd (List Cb) := Kd.slice 69 k69
def ints (c : Int) (n : Nat) : List Int := (List.range n).map fun (i : Nat) => c + (i : Int)
theorem ints_len (c : Int) (n : Nat) : (ints c n).length = n := by simp [ints]
theorem markInt64S_ev (l : List Int) (a : Int) (h : l.length ≤ 1048576) (h0 : 0 ≤ a) (h1 : a ≤ 1000000000000) : Ev (fun k => laws_markInt64S.f k l a) (a + (l.length : Int), ints a l.length) := by
 unfold laws_markInt64S.f
 refine ev_at l.length (fun (s : List Int × Int) j => s.1.length = l.length ∧ s.2 = a + (j : Int) ∧ s.1.take j = ints a j) (a + (l.length : Int), ints a l.length) (fun s i k => laws_markInt64S.l0 k s.1 s.2 i) (fun s hi => ?_) (fun s j hj hi => ?_) (l, a) ⟨rfl, by simp, by simp [ints]⟩
 ·refine Ev.step (f := fun _ => some (s.2, s.1)) (fun k => by simp only [laws_markInt64S.l0]; rw [if_neg (by omega)]) ?_
  have h3 := hi.2.2
  rw [List.take_of_length_le (by omega)] at h3
  rw [hi.2.1, h3]
  exact Ev.now _
 ·refine ⟨(s.1.set j s.2, s.2 + 1), ⟨by simp only [List.length_set]; exact hi.1, by simp only; omega, ?_⟩, fun h2 => Ev.step (fun k => ?_) h2⟩
  ·have hl : j < (s.1.set j s.2).length := by rw [List.length_set]; omega
   simp only
   rw [List.take_succ_eq_append_getElem hl, List.getElem_set_self, List.take_set_of_le (Nat.le_refl j), hi.2.2, hi.2.1]
   simp [ints, List.range_succ]
  ·simp only [laws_markInt64S.l0, Int.toNat_natCast]
   rw [if_pos (by omega), if_pos (by omega), wrap_succ j (by omega), show wrap64 (s.2 + 1) = s.2 + 1 from by have := hi.2.1; unfold wrap64; omega]
theorem heldInts_ev' (a : Int) (n : Nat) (h0 : 0 ≤ a) (h : a + n ≤ 1000000000000) : Ev (fun k => laws_heldInt64S.f k (ints a n) a) (a + (n : Int)) := by
 unfold laws_heldInt64S.f
 refine ev_at n (fun (s : Int) j => s = a + (j : Int)) (a + (n : Int)) (fun s i k => laws_heldInt64S.l0 k (ints a n) s i) (fun s hi => ?_) (fun s j hj hi => ?_) a (by simp)
 ·exact Ev.step (f := fun _ => some s) (fun k => by simp only [laws_heldInt64S.l0]; rw [if_neg (by rw [ints_len]; omega)]) (by rw [hi]; exact Ev.now _)
 ·refine ⟨s + 1, by omega, fun h2 => Ev.step (fun k => ?_) h2⟩
  have hg : (ints a n)[j]'(by rw [ints_len]; exact hj) = a + j := by simp [ints]
  simp only [laws_heldInt64S.l0]
  rw [if_pos (by rw [ints_len]; omega), if_pos (by omega), if_pos (by rw [rd_nat _ j (by rw [ints_len]; omega), hg]; omega), wrap_succ j (by omega), show wrap64 (s + 1) = s + 1 from by unfold wrap64; omega]
theorem eqInt64S_ev (l : List Int) (h : l.length ≤ 1048576) : Ev (fun k => laws_eqInt64S.f k l l) true := by
 unfold laws_eqInt64S.f
 simp only [if_true]
 refine ev_at l.length (fun (_ : Unit) _ => True) true (fun _ i k => laws_eqInt64S.l0 k l l i) (fun s hi => ?_) (fun s j hj hi => ?_) () trivial
 ·exact Ev.step (f := fun _ => some true) (fun k => by simp only [laws_eqInt64S.l0]; rw [if_neg (by omega)]) (Ev.now _)
 ·refine ⟨(), trivial, fun h2 => Ev.step (fun k => ?_) h2⟩
  simp only [laws_eqInt64S.l0, if_true]
  rw [if_pos (by omega), if_pos (by omega), if_pos (by omega), wrap_succ j (by omega)]
def marksC (a : Int) (n : Nat) : List Cb := (List.range n).map fun (i : Nat) => ⟨a + 3 * (i : Int), a + 3 * (i : Int) + 1, a + 3 * (i : Int) + 2⟩
theorem markCubeS_ev (l : List Cb) (a : Int) (h : l.length ≤ 1048576) (h0 : 0 ≤ a) (h1 : a ≤ 1000000000000) : Ev (fun k => laws_markCubeS.f k l a) (a + 3 * (l.length : Int), marksC a l.length) := by
 unfold laws_markCubeS.f
 refine ev_at l.length (fun (s : List Cb × Int) j => s.1.length = l.length ∧ s.2 = a + 3 * (j : Int) ∧ s.1.take j = marksC a j) (a + 3 * (l.length : Int), marksC a l.length) (fun s i k => laws_markCubeS.l0 k s.1 s.2 i) (fun s hi => ?_) (fun s j hj hi => ?_) (l, a) ⟨rfl, by simp, by simp [marksC]⟩
 ·refine Ev.step (f := fun _ => some (s.2, s.1)) (fun k => by simp only [laws_markCubeS.l0]; rw [if_neg (by omega)]) ?_
  have h3 := hi.2.2
  rw [List.take_of_length_le (by omega)] at h3
  rw [hi.2.1, h3]
  exact Ev.now _
 ·have w1 : wrap64 (s.2 + 1) = s.2 + 1 := by have := hi.2.1; unfold wrap64; omega
  have w2 : wrap64 (s.2 + 1 + 1) = s.2 + 2 := by have := hi.2.1; unfold wrap64; omega
  have w3 : wrap64 (s.2 + 2 + 1) = s.2 + 3 := by have := hi.2.1; unfold wrap64; omega
  refine ⟨(s.1.set j ⟨s.2, s.2 + 1, s.2 + 2⟩, s.2 + 3), ⟨by simp only [List.length_set]; exact hi.1, by simp only; omega, ?_⟩, fun h2 => Ev.step (fun k => ?_) h2⟩
  ·have hl : j < (s.1.set j (⟨s.2, s.2 + 1, s.2 + 2⟩ : Cb)).length := by rw [List.length_set]; omega
   simp only
   rw [List.take_succ_eq_append_getElem hl, List.getElem_set_self, List.take_set_of_le (Nat.le_refl j), hi.2.2, hi.2.1]
   simp [marksC, List.range_succ]
  ·simp only [laws_markCubeS.l0, Int.toNat_natCast, Option.bind_some, w1, w2, w3, rd_T69]
   rw [if_pos (by omega), if_pos (by omega), wrap_succ j (by omega)]
   have hg : ∀ (l : List Cb) (x : Cb) (hl : j < l.length), (l.set j x).getD j z69 = x := fun l x hl => by simp [List.getD_eq_getElem?_getD, hl]
   have hjl : j < s.1.length := by omega
   rw [hg _ _ hjl]
   dsimp only
   rw [hg _ _ (by rw [List.length_set]; exact hjl)]
   dsimp only
   rw [List.set_set, List.set_set]
def t3 (rows : List (List Cb)) : Int := 3 * tot2 rows
theorem t3_next (rows : List (List Cb)) (i : Nat) (h : i < rows.length) : t3 (rows.take (i + 1)) = t3 (rows.take i) + 3 * (rows[i].length : Int) := by
 unfold t3 tot2
 rw [List.take_succ_eq_append_getElem h, List.map_append, List.sum_append]
 simp
 omega
theorem t3_le (rows : List (List Cb)) (i : Nat) : t3 (rows.take i) ≤ t3 rows ∧ 0 ≤ t3 (rows.take i) := by
 unfold t3 tot2
 have := congrArg (fun l => (List.map List.length l).sum) (List.take_append_drop i rows)
 simp only [List.map_append, List.sum_append] at this
 omega
theorem t3_cons (r : List Cb) (rs : List (List Cb)) : t3 (r :: rs) = 3 * (r.length : Int) + t3 rs := by unfold t3; rw [tot2_cons]; omega
def marksQ : Int → List (List Cb) → List (List Cb)
 | _, [] => []
 | a, r :: rs => marksC a r.length :: marksQ (a + 3 * (r.length : Int)) rs
theorem marksQ_len : ∀ (rows : List (List Cb)) (a : Int), (marksQ a rows).length = rows.length
 | [], _ => rfl
 | r :: rs, a => by simp [marksQ, marksQ_len rs]
theorem marksQ_at : ∀ (rows : List (List Cb)) (a : Int) (i : Nat) (h : i < rows.length), (marksQ a rows)[i]? = some (marksC (a + t3 (rows.take i)) rows[i].length)
 | r :: rs, a, 0, h => by simp [marksQ, t3, tot2]
 | r :: rs, a, i + 1, h => by
  simp only [marksQ, List.getElem?_cons_succ, List.getElem_cons_succ, List.take_succ_cons]
  rw [marksQ_at rs _ i (by simpa using h), t3_cons]
  congr 2
  omega
set_option maxHeartbeats 1000000 in
set_option maxRecDepth 100000 in
theorem laws_markCubeSS.calls2 (rows : List (List Cb)) (fp : Nat → Prop) (u : Value) (a : Int) (w0 w : World) (hB : Below w0.heap.size w0 w) (hS : Kd.S kQ 34 w w0.heap.size fp u rows) (h0 : 0 ≤ a) (h1 : a + t3 rows ≤ 1000000000000) (hl : rows.length ≤ 1048576) (hr : ∀ r ∈ rows, r.length ≤ 1048576) :
  Calls Try.prog 21 #[u, .int .i64 a] w fun e w' => e = .returned (.int .i64 (a + t3 rows)) ∧ Kd.S kQ 34 w' w0.heap.size (fun k => fp k ∨ w.heap.size ≤ k) u (marksQ a rows) ∧ Below w0.heap.size w0 w' ∧ Kept w w' fp := by
 obtain ⟨A, c, rfl⟩ := Kd.S_slice hS
 have HS := A0_ (Kd.S_mono (ok' := fun k => fp k ∨ w.heap.size ≤ k) hS (fun k hk => .inl hk))
 have HB := A0_ hB
 have HK := A0_ (Kept.refl w fp)
 have HA := A0_ (And.intro h0 h1)
 have HL := A0_ hl
 have HR := A0_ hr
 clear hS hB h0 h1 hl hr
 go_enter Try.func21, Try.ntmps21
 go_wp2
 go_loopg [1, 5] (rows.length + 1) (fun kq v1 v5 w' => ∃ (i : Nat) (rs : List (List Cb)), v5 = .int .i64 (i : Int) ∧ v1 = .int .i64 (a + t3 (rows.take i)) ∧ Aside0 (i ≤ rows.length ∧ kq + i = rows.length + 1 ∧ rs.length = rows.length ∧ (∀ j, i ≤ j → rs[j]? = rows[j]?) ∧ ∀ j, j < i → rs[j]? = (marksQ a rows)[j]?) ∧ Aside0 (Kd.S kQ 34 w' w0.heap.size (fun k => fp k ∨ w.heap.size ≤ k) (.slice A rows.length c) rs) ∧ Aside0 (Below w0.heap.size w0 w') ∧ Aside0 (Kept w w' fp))
 case atStart => exact ⟨0, rows, rfl, by simp [t3, tot2], ⟨by omega, by omega, rfl, fun _ _ => rfl, fun j hj => by omega⟩, HS, HB, HK⟩
 case round =>
  clear HS HB HK
  obtain ⟨i, rs, rfl, rfl, HX, HS, HB, HK⟩ := hrel
  obtain ⟨k1, rfl⟩ : ∃ k1, gk = k1 + 1 := ⟨gk - 1, by have := HX.out; omega⟩
  by_cases ci : i < rows.length
  ·have ci0 : decide (i < rows.length) = true := decide_eq_true ci
   have ci1 := eq_true ci
   have hrl := HX.out.2.2.1
   obtain ⟨g, cap, e, hgb, hgl, _⟩ := Kd.S_form HS.out (by omega)
   rw [hrl] at e
   injection e with e1 e2 e3
   subst e1 e3
   obtain ⟨oki, cc, hcl, hM, hcc, hfr, hoki, hH⟩ := Kd.S_elem HS.out [] (i : Int) (by omega) (by omega)
   have hget : rs.getD (i : Int).toNat [] = rows[i] := by
    rw [Int.toNat_natCast, List.getD_eq_getElem?_getD, HX.out.2.2.2.1 i (Nat.le_refl i), List.getElem?_eq_getElem ci]; rfl
   rw [hget] at hM
   obtain ⟨v, rfl, hRv⟩ := hM
   obtain ⟨A2, c2, rfl⟩ := Kd.R_slice hRv
   have hcell := hcc 0 _ rfl
   have ez : (i : Int).toNat * kQ.sz + 0 = i := by show (i : Int).toNat * 1 + 0 = i; omega
   rw [ez] at hcell
   obtain ⟨r, hrr⟩ : ∃ r, r = rows[i] := ⟨_, rfl⟩
   have htn := t3_next rows i ci
   rw [← hrr] at hRv hcell htn hH
   have HTN := A0_ htn
   have HMJ := A0_ (show (marksQ a rows)[i]? = some (marksC (a + t3 (rows.take i)) r.length) by rw [hrr]; exact marksQ_at rows a i ci)
   have hrlen : r.length ≤ 1048576 := hrr ▸ HR.out _ (List.getElem_mem ci)
   have htl := t3_le rows i
   have htl2 := t3_le rows (i + 1)
   obtain ⟨km, hkm⟩ := (markCubeS_ev r (a + t3 (rows.take i)) hrlen (by have := HA.out; omega) (by have := HA.out; omega)).rounds
   have HKM := A0_ hkm
   have HRV := A0_ hRv
   have HWI := A0_ (wrap_succ i (by have := HL.out; omega))
   have HH := A0_ hH
   have HOK := A0_ hoki
   have HC := A0_ ci
   have p0 : ((i : Int) < (rows.length : Int)) = True := eq_true (by omega)
   clear hkm hRv hH hoki hcl hcc hfr hget hrr htn htl htl2 hrlen ci
   go_wp2_with (first
    | (go_at_call 20; refine (laws_markCubeS.calls km oki _ r (a + t3 (rows.take i)) _ _ w0 _ HB.out HRV.out HKM.out).mono ?_; rintro e w1 ⟨rfl, ho, hb, hk⟩; have HO := A0_ ho; have HB1 := A0_ hb; have HKK := A0_ hk; clear ho hb hk))
   go_roundg k1
   case measure => omega
   case rel =>
    rw [HWI.out]
    refine ⟨i + 1, rs.set i (marksC (a + t3 (rows.take i)) r.length), rfl, by rw [HTN.out]; congr 1; omega, ⟨by have := HC.out; omega, by have := HX.out; omega, by rw [List.length_set]; exact HX.out.2.2.1, fun j hj => by rw [List.getElem?_set_ne (by omega)]; exact HX.out.2.2.2.1 j (by omega), fun j hj => by
     by_cases e : j = i
     ·subst e; rw [List.getElem?_set_self (by rw [HX.out.2.2.1]; exact HC.out), HMJ.out]
     ·rw [List.getElem?_set_ne (Ne.symm e)]; exact HX.out.2.2.2.2 j (by omega)⟩, ⟨?_⟩, HB1, ⟨?_⟩⟩
    ·have hw := Kd.H_widen HH.out
     have hk2 := Kd.H_kept hw HKK.out (fun k _ hn hs => hn (.inl hs))
     have := Kd.H_back hk2 (x' := marksC (a + t3 (rows.take i)) r.length) ⟨_, rfl, Kd.R_mono (ok' := fun k => oki k ∨ (fp k ∨ w.heap.size ≤ k) ∧ wr.heap.size ≤ k) HO.out (fun k hk => hk.elim .inl (fun h => .inr ⟨.inr (Nat.le_trans HK.out.1 h), h⟩))⟩ (fun _ h => h)
     rw [Int.toNat_natCast] at this
     exact this
    ·exact Kept.then_ HK.out HKK.out (fun k hk => (HOK.out k hk).1)
  ·have ci0 : decide (i < rows.length) = false := decide_eq_false ci
   have hi : i = rows.length := by have := HX.out; omega
   have HI := A0_ hi
   clear ci hi
   go_wp2
   go_ret
   have e : rs = marksQ a rows := List.ext_getElem? (fun j => by
    by_cases c : j < rows.length
    ·exact HX.out.2.2.2.2 j (by rw [HI.out]; exact c)
    ·rw [List.getElem?_eq_none (by rw [HX.out.2.2.1]; omega), List.getElem?_eq_none (by rw [marksQ_len]; omega)])
   exact ⟨by rw [HI.out, List.take_length]; rfl, e ▸ HS.out, HB.out, HK.out⟩
set_option maxHeartbeats 1000000 in
set_option maxRecDepth 100000 in
theorem laws_markAssembly.calls2 (rows : List (List Cb)) (fp : Nat → Prop) (A : Option Addr) (n c : Nat) (a : Int) (w0 w : World) (hB : Below w0.heap.size w0 w) (hS : Kd.S kQ 34 w w0.heap.size fp (.slice A n c) rows) (h0 : 0 ≤ a) (h1 : a + t3 rows ≤ 1000000000000) (hl : rows.length ≤ 1048576) (hr : ∀ r ∈ rows, r.length ≤ 1048576) :
  Calls Try.prog 19 #[.agg #[.slice A n c], .int .i64 a] w fun e w' => e = .returned (.int .i64 (a + t3 rows)) ∧ ∃ rows', Kd.S kQ 34 w' w0.heap.size (fun k => fp k ∨ w.heap.size ≤ k) (.slice A n c) rows' ∧ Below w0.heap.size w0 w' ∧ Kept w w' fp := by
 have HS := A0_ (Kd.S_alloc hS (.cells #[.slice A n c] 32))
 have HB := A0_ (below_alloc hB (.cells #[.slice A n c] 32))
 have HKA := A0_ (Kept.alloc (Kept.refl w fp) (.cells #[.slice A n c] 32))
 have HA := A0_ (And.intro h0 h1)
 have HL := A0_ hl
 have HR := A0_ hr
 clear hS hB h0 h1 hl hr
 go_enter Try.func19, Try.ntmps19
 go_wp2_with (first
  | (go_at_call 21; refine (laws_markCubeSS.calls2 rows fp _ a w0 _ HB.out HS.out HA.out.1 HA.out.2 HL.out HR.out).mono ?_; rintro e w1 ⟨rfl, hs, hb, hk⟩; have HS1 := A0_ hs; have HB1 := A0_ hb; have HK1 := A0_ hk; clear hs hb hk))
 go_ret
 exact ⟨rfl, _, Kd.S_mono HS1.out (fun k hk => hk.imp_right (fun h => Nat.le_trans HKA.out.1 h)), HB1.out, Kept.then_ HKA.out HK1.out (fun k hk => .inl hk)⟩
end Go.Proofs.Ytlbckkagjekhnaa.A


namespace Go.Proofs.Ytlbckkagjekhnaa.A
open Go.RowKit Go.Proofs.YtlbckkagjekhnaaW.PrintWords Go.Proofs.YtlbckkagjekhnaaW.PrintLast Go.Proofs.YtlbckkagjekhnaaW.PrintMore
set_option linter.unusedVariables false
set_option linter.unusedSimpArgs false
theorem tot2_le : ∀ (rows : List (List Cb)) (n : Nat), (∀ p ∈ rows, p.length ≤ n) → tot2 rows ≤ (n : Int) * (rows.length : Int)
 | [], n, _ => by simp [tot2]
 | r :: rs, n, h => by
  rw [tot2_cons]
  have h1 := tot2_le rs n (fun p hp => h p (List.mem_cons_of_mem _ hp))
  have h2 := h r List.mem_cons_self
  rw [List.length_cons, Int.natCast_add, Int.mul_add]
  omega
theorem small_ok {rows : List (List Cb)} (h1 : rows.length ≤ 8) (h2 : ∀ p ∈ rows, p.length ≤ 64) : SzOk rows := by
 refine ⟨by omega, fun r hr => by have := h2 r hr; omega, ?_⟩
 have := tot2_le rows 64 h2
 have h3 : (64 : Int) * (rows.length : Int) ≤ 512 := by omega
 omega
abbrev GSt := List Int × List Int × List (List Cb)
def namesP (n : Nat) : List Int := (List.range n).map fun (i : Nat) => (i : Int)
theorem restP_len (parts : List (List Cb)) (o : List Cb) (p : Nat) (h : p < parts.length) : (restP parts o p).length = parts.length - 1 := by
 unfold restP backP
 rw [List.length_map, List.length_eraseIdx, allMoved_len, if_pos h]
structure GOk (a : GSt) (n i : Nat) : Prop where
 nm : a.1.length = a.2.2.length
 out : a.2.1.length = i
 len : a.2.2.length + i = n
 sz : SzOk a.2.2
theorem GOk.start {parts : List (List Cb)} (hz : SzOk parts) : GOk (namesP parts.length, [], parts) parts.length 0 := ⟨by simp [namesP], rfl, rfl, hz⟩
def leaF.T4 : Bool × List (List Nat × List Nat) := (true, [([], []), ([], []), ([1], [1]), ([0, 2, 2], [0, 2]), ([3, 3, 0, 1, 2, 3], [3])])
def leaF.B4 : List Nat := [0, 0, 2, 7, 15]
theorem leaF.tab4 : rtab .any (opsOf Try.f93 4) = leaF.T4 := by kernel_rfl
theorem leaF.bits4 : waitsOk leaF.T4.2 leaF.B4 = true := by kernel_rfl
set_option maxHeartbeats 4000000 in
set_option maxRecDepth 100000 in
theorem leaves_calls (w0 : World) (Ap : Option Addr) (cp g gM : Nat) (parts : List (List Cb)) (hF : FrOk w0 Ap parts) (r : Res) (Ao : Addr) (co : Nat) (offs : List Cb) (hr : Rds w0 r (some Ao) offs) (hlo : offs.length = parts.length) (p : Nat) (hp : p < parts.length) (d : Int) (hd : 0 ≤ d ∧ d < 6) (rest : List Res) (w : World) (hs : Sp w0 ([frBlk g gM Ap cp parts, frMemo gM parts, r] ++ rest) w) :
  Calls Try.prog 93 #[.pointer (some ⟨g, 0, none⟩), .slice (some Ao) offs.length co, .int .i64 p, .int .i64 d] w fun e w' => e = .returned (.bool (leavesP parts offs p d)) ∧ Sp w0 ([frBlk g gM Ap cp parts, frMemo gM parts, r] ++ rest) w' := by
 have hu69 := Try.underlying69
 have HS := A0_ hs
 have HF := A0_ hF
 have HRD := A0_ hr
 have HLO := A0_ hlo
 have HP := A0_ hp
 have HVE := A0_ (fun w => vectorOf_calls d hd w)
 have q0 : (0 ≤ (p : Int)) = True := eq_true (by omega)
 have q1 : ((p : Int) < (offs.length : Int)) = True := eq_true (by omega)
 have q2 : (p < offs.length) = True := eq_true (by omega)
 obtain ⟨ad, e, hx0, hx1, hx2⟩ := at_T69 (Sp.rds hs (i := 2) rfl hr) (p : Int) (by omega) (by omega)
 injection e with e
 subst e
 rw [show rd_T69 offs (p : Int) = oAt offs p from rfl] at hx0 hx1 hx2
 rw [Int.toNat_natCast] at hx0 hx1 hx2
 have hlv : leavesP parts offs p d = (List.range 40).all fun j => aloneP parts offs p (stepO (oAt offs p) (vecP d) (j + 1)) := rfl
 obtain ⟨q0_, hq⟩ : ∃ q, q = oAt offs p := ⟨_, rfl⟩
 obtain ⟨v, hv⟩ : ∃ v, v = vecP d := ⟨_, rfl⟩
 rw [← hq] at hx0 hx1 hx2 hlv
 rw [← hv] at hlv HVE
 have HLV := A0_ hlv
 obtain ⟨R, hR⟩ : ∃ R, R = leavesP parts offs p d := ⟨_, rfl⟩
 rw [← hR] at HLV ⊢
 clear hs hF hr hlo hp hd hq hv hlv hR
 go_enter Try.func93, Try.ntmps93
 go_wp2
 obtain ⟨go, hg_⟩ : ∃ g_, g_ = (w).heap.size := ⟨_, rfl⟩; obtain ⟨wq, hw_⟩ : ∃ w_, w_ = (w).alloc (.cells #[.int .i64 q0_.f0, .int .i64 q0_.f1, .int .i64 q0_.f2] 69) := ⟨_, rfl⟩; (try rw [← hw_]); (try rw [← hg_]); have HS_ := A0_ (Sp.box HS.out #[.int .i64 q0_.f0, .int .i64 q0_.f1, .int .i64 q0_.f2] 69); rw [← hw_, ← hg_] at HS_; clear HS; have HS := HS_; clear HS_ hw_ hg_
 have HS_ := A0_ (Sp.arr (pre := [Res.blk go #[.int .i64 q0_.f0, .int .i64 q0_.f1, .int .i64 q0_.f2] 69, frBlk g gM Ap cp parts, frMemo gM parts, r]) (pre' := [frBlk g gM Ap cp parts, frMemo gM parts, r, Res.blk go #[.int .i64 q0_.f0, .int .i64 q0_.f1, .int .i64 q0_.f2] 69]) (rest := rest) [1, 2, 3, 0] HS.out rfl rfl)
 clear HS hx0 hx1 hx2
 have HS := HS_
 clear HS_
 go_loopg [14] 41 (fun kq v14 w' => ∃ (j : Nat) (q : Cb), v14 = .int .i64 (j : Int) ∧ Aside0 (j ≤ 40 ∧ kq + j = 41 ∧ q = stepO q0_ v j ∧ (List.range j).all (fun j => aloneP parts offs p (stepO q0_ v (j + 1))) = true) ∧ Aside0 (Sp w0 ([frBlk g gM Ap cp parts, frMemo gM parts, r, Res.blk go #[.int .i64 q.f0, .int .i64 q.f1, .int .i64 q.f2] 69] ++ rest) w'))
 case atStart => exact ⟨0, q0_, rfl, ⟨by omega, by omega, rfl, rfl⟩, HS⟩
 case round =>
  clear HS
  obtain ⟨j, q, rfl, HX, HS⟩ := hrel
  obtain ⟨k1, rfl⟩ : ∃ k1, gk = k1 + 1 := ⟨gk - 1, by have := HX.out; omega⟩
  by_cases cj : j < 40
  ·have cj0 : decide (j < 40) = true := decide_eq_true cj
   have cj1 : (j < 40) = True := eq_true cj
   have cj2 : decide ((j : Int) < 40) = true := decide_eq_true (by omega)
   have cj3 : ((j : Int) < 40) = True := eq_true (by omega)
   have HW := A0_ (wrap_succ j (by omega))
   have HNX := A0_ (all_next (fun j => aloneP parts offs p (stepO q0_ v (j + 1))) j HX.out.2.2.2)
   have HNO := A0_ (fun h => HLV.out.trans (all_no (fun j => aloneP parts offs p (stepO q0_ v (j + 1))) j 40 cj h))
   have hst : stepO q0_ v (j + 1) = addC q v := by rw [HX.out.2.2.1]; rfl
   rw [hst] at HNX HNO
   have HST := A0_ hst
   have HCJ := A0_ cj
   clear cj hst
   go_wp2
   replace HS := A0_ (show Sp w0 ([frBlk g gM Ap cp parts, frMemo gM parts, r, Res.blk go #[.int .i64 q.f0, .int .i64 q.f1, .int .i64 q.f2] 69] ++ rest) wr.drew from Sp.drew HS.out)
   refine start_ (n := 5) (S := fun w' => w'.cell? ⟨go, 0, none⟩ = some (.int .i64 q.f0) ∧ w'.cell? ⟨go, 1, none⟩ = some (.int .i64 q.f1) ∧ w'.cell? ⟨go, 2, none⟩ = some (.int .i64 q.f2)) (ds := [4]) #[false, false, false, false, false] (by kernel_rfl) rfl rfl (⟨(cl_ HS 3 0 rfl).trans rfl, (cl_ HS 3 1 rfl).trans rfl, (cl_ HS 3 2 rfl).trans rfl⟩) (fun hHeld => ?_)
   refine with_tabW leaF.tab4 leaF.bits4 (fun HT_ HW_ => ?_)
   generalize wr.drew = wD at HS hHeld ⊢
   refine tk_ 0 (some 16) ?_
   refine on_ 1 (some 17) ?_
   refine o1_ 2 (some 18) (fun K hK => ?_)
   refine gs_ Try.func115 #[.int .i64 d] ?_
   refine (HVE.out _).mono ?_
   rintro e wA11 ⟨rfl, hb⟩
   refine ⟨_, rfl, ?_⟩
   replace HS := A0_ (Sp.far HS.out hb)
   clear hb
   refine hK.out _ _ (⟨(cl_ HS 3 0 rfl).trans rfl, (cl_ HS 3 1 rfl).trans rfl, (cl_ HS 3 2 rfl).trans rfl⟩) (fun hHeld => ?_)
   clear hK K
   refine nm_ (some 18) ?_
   refine o1_ 3 (some 19) (fun K hK => ?_)
   refine gs_ Try.func98 #[.agg #[.int .i64 q.f0, .int .i64 q.f1, .int .i64 q.f2], .agg #[.int .i64 v.f0, .int .i64 v.f1, .int .i64 v.f2]] ?_
   refine (impl_plusCube.calls q.f0 q.f1 q.f2 v.f0 v.f1 v.f2 (addC q v).f0 (addC q v).f1 (addC q v).f2 _ rfl).mono ?_
   rintro e wA12 ⟨rfl, hb⟩
   refine ⟨_, rfl, ?_⟩
   replace HS := A0_ (Sp.far HS.out hb)
   clear hb
   refine hK.out _ _ (⟨(cl_ HS 3 0 rfl).trans rfl, (cl_ HS 3 1 rfl).trans rfl, (cl_ HS 3 2 rfl).trans rfl⟩) (fun hHeld => ?_)
   clear hK K
   refine nm_ (some 19) ?_
   refine ol_ 4 none (fun K hK => ?_)
   refine skip_ (w1 := wA12.setCells go 0 (#[.int .i64 (addC q v).f0, .int .i64 (addC q v).f1, .int .i64 (addC q v).f2] : Array Value).toList) (by rfl) rfl (exec_store (v := .pointer (some ⟨go, 0, none⟩)) (u := .agg #[.int .i64 (addC q v).f0, .int .i64 (addC q v).f1, .int .i64 (addC q v).f2]) rfl (by first | rfl | (go_simp; done) | (go_simp; rfl)) (by first | rfl | (go_simp; done) | (go_simp; rfl)) (Sp.blkStore HS.out (i := 3) rfl (.agg #[.int .i64 (addC q v).f0, .int .i64 (addC q v).f1, .int .i64 (addC q v).f2]) (#[.int .i64 (addC q v).f0, .int .i64 (addC q v).f1, .int .i64 (addC q v).f2]) rfl rfl (by kernel_rfl) (by first | (simp; done) | (simp [Value.oneCell']; done) | (simp; exact ⟨rfl, rfl, rfl⟩)))) ?_
   obtain ⟨wS13, hw_⟩ : ∃ w_, w_ = wA12.setCells go 0 (#[.int .i64 (addC q v).f0, .int .i64 (addC q v).f1, .int .i64 (addC q v).f2] : Array Value).toList := ⟨_, rfl⟩
   rw [← hw_]
   have HS_ := A0_ (Sp.blkAll HS.out (i := 3) rfl (#[.int .i64 (addC q v).f0, .int .i64 (addC q v).f1, .int .i64 (addC q v).f2]) rfl)
   rw [← hw_] at HS_
   clear HS
   have HS := HS_
   clear HS_ hw_
   refine hK.out _ _ ?_
   clear hK K
   refine dn_ ?_
   obtain ⟨o, ho⟩ : ∃ o, o = addC q v := ⟨_, rfl⟩
   rw [← ho] at HS HNX HNO HST
   clear ho
   have hg0 := (cl_ HS 3 0 rfl).trans rfl; have hg1 := (cl_ HS 3 1 rfl).trans rfl; have hg2 := (cl_ HS 3 2 rfl).trans rfl
   have HAL := A0_ (fun w2 hs => alone_calls w0 Ap cp g gM parts HF.out r (some Ao) co offs HRD.out (by have := HLO.out; omega) (p : Int) (by have := HP.out; omega) o ([Res.blk go #[.int .i64 o.f0, .int .i64 o.f1, .int .i64 o.f2] 69] ++ rest) w2 hs)
   cases ha : aloneP parts offs (p : Int) o with
   | false =>
    rw [ha] at HAL
    have HF2 := A0_ (HNO.out ha)
    clear ha HNX HNO
    go_wp2_with (first
     | (go_at_call 113; refine (HAL.out _ HS.out).mono ?_; rintro e wa_ ⟨rfl, hs_⟩; replace HS := A0_ (hs_); clear hs_ hg0 hg1 hg2))
    go_ret
    exact ⟨by rw [HF2.out]; rfl, Sp.out HS.out 3⟩
   | true =>
    rw [ha] at HAL
    have HN := A0_ (HNX.out.trans ha)
    clear ha HNX HNO
    go_wp2_with (first
     | (go_at_call 113; refine (HAL.out _ HS.out).mono ?_; rintro e wa_ ⟨rfl, hs_⟩; replace HS := A0_ (hs_); clear hs_ hg0 hg1 hg2))
    go_roundg k1
    case measure => omega
    case rel =>
     rw [HW.out]
     exact ⟨j + 1, o, rfl, ⟨by have := HCJ.out; omega, by have := HX.out; omega, HST.out.symm, HN.out⟩, HS⟩
  ·have cj0 : decide (j < 40) = false := decide_eq_false cj
   have cj1 : (j < 40) = False := eq_false cj
   have cj2 : decide ((j : Int) < 40) = false := decide_eq_false (by omega)
   have cj3 : ((j : Int) < 40) = False := eq_false (by omega)
   have hj : j = 40 := by have := HX.out; omega
   have HT := A0_ (HLV.out.trans (hj ▸ HX.out.2.2.2))
   clear cj hj
   go_wp2
   go_ret
   exact ⟨by rw [HT.out]; rfl, Sp.out HS.out 3⟩
set_option maxHeartbeats 4000000 in
set_option maxRecDepth 100000 in
theorem free_calls (w0 : World) (Ap : Option Addr) (cp g gM : Nat) (parts : List (List Cb)) (hF : FrOk w0 Ap parts) (r : Res) (Ao : Addr) (co : Nat) (offs : List Cb) (hr : Rds w0 r (some Ao) offs) (hlo : offs.length = parts.length) (rest : List Res) (w : World) (hs : Sp w0 ([frBlk g gM Ap cp parts, frMemo gM parts, r] ++ rest) w) :
  Calls Try.prog 66 #[.pointer (some ⟨g, 0, none⟩), .slice (some Ao) offs.length co] w fun e w' => ∃ A c, e = .returned (.slice A (freeP parts offs).length c) ∧ Sp w0 ([Res.row kI 2 w0.heap.size (.slice A (freeP parts offs).length c) (freeP parts offs), frBlk g gM Ap cp parts, frMemo gM parts, r] ++ rest) w' := by
 have HS := A0_ hs
 have HF := A0_ hF
 have HRD := A0_ hr
 have HLO := A0_ hlo
 have HFIN := A0_ (show freeP parts offs = freeK parts offs (6 * parts.length) from rfl)
 have h8 := hF.len
 obtain ⟨T, hT⟩ : ∃ T, T = 6 * parts.length := ⟨_, rfl⟩
 have e0 : wrap64 (6 * (parts.length : Int)) = (T : Int) := by rw [hT, wrap_id (by omega) (by omega)]; omega
 rw [← hT] at HFIN
 have HT := A0_ (show T ≤ 48 by omega)
 have HTP := A0_ hT
 have hg0 : w.cell? ⟨g, 0, none⟩ = some (.slice Ap parts.length cp) := (cl_ HS 0 0 rfl).trans rfl
 rw [HFIN.out]
 clear hs hF hr hlo h8 hT
 go_enter Try.func66, Try.ntmps66
 go_wp2_with (first
  | ((with_reducible refine gate_dst (N := 7) rfl ?_); refine Kd.R_lit kI _ 2 ?hg (N := 7) ?hd (xs := ([] : List Int)) (inner := []) (ok := fun _ => True) (okp := fun _ => True) ?hr ?hp (fun _ hk => hk) trivial (Below.refl _ _) (Nat.le_refl _) (by simp) ?_; (case hd => rfl); (case hg => rfl); (case hr => first | (go_simp; done) | (go_simp; rfl)); (case hp => exact (Reps.none _ _)); intro vl_ wl_ ho_ hb_ hg_ hn_; clear hg_ hn_; replace HS := A0_ (Sp.made' HS.out hb_ ho_); clear ho_ hb_; obtain ⟨Al, cl, ev_⟩ := Sp.slice HS.out (i := 0) rfl; subst ev_; have hg0 := (cl_ HS 1 0 rfl).trans rfl))
 rw [e0]
 go_loopg [14, 5] (T + 1) (fun kq v14 v5 w' => ∃ (m : Nat) (A : Option Addr) (c : Nat), v14 = .int .i64 (m : Int) ∧ v5 = .slice A (freeK parts offs m).length c ∧ Aside0 (m ≤ T ∧ kq + m = T + 1) ∧ Aside0 (Sp w0 ([frBlk g gM Ap cp parts, frMemo gM parts, r, Res.row kI 2 w0.heap.size (.slice A (freeK parts offs m).length c) (freeK parts offs m)] ++ rest) w'))
 case atStart =>
  refine ⟨0, Al, cl, rfl, rfl, ⟨by omega, by omega⟩, ⟨?_⟩⟩
  exact Sp.arr (pre := [Res.row kI 2 w0.heap.size (.slice Al ([] : List Int).length cl) ([] : List Int), frBlk g gM Ap cp parts, frMemo gM parts, r]) (rest := rest) [1, 2, 3, 0] HS.out rfl rfl
 case round =>
  clear HS
  obtain ⟨m, A, c, rfl, rfl, HX, HS⟩ := hrel
  obtain ⟨k1, rfl⟩ : ∃ k1, gk = k1 + 1 := ⟨gk - 1, by have := HX.out; omega⟩
  by_cases ck : m < T
  ·have ck0 : decide (m < T) = true := decide_eq_true ck
   have ck1 := eq_true ck
   have ck2 : decide ((m : Int) < (T : Int)) = true := decide_eq_true (by omega)
   have ck3 : ((m : Int) < (T : Int)) = True := eq_true (by omega)
   have HW := A0_ (wrap_succ m (by have := HT.out; omega))
   have HSC := A0_ (freeK_succ parts offs m)
   have HML := A0_ (freeK_len parts offs m)
   obtain ⟨pi, hpi⟩ : ∃ pi, pi = m / 6 := ⟨_, rfl⟩
   obtain ⟨di, hdi⟩ : ∃ di, di = m % 6 := ⟨_, rfl⟩
   have hm6 : m / 6 < parts.length := by have := HTP.out; omega
   rw [← hpi, ← hdi] at HSC
   have e1 : wrap64 ((m : Int) / 6) = (pi : Int) := by rw [wrap_id (by omega) (by have := HT.out; omega)]; omega
   have e2 : (m : Int) % 6 = (di : Int) := by omega
   have HLE := A0_ (fun rs w2 hs => leaves_calls w0 Ap cp g gM parts HF.out r Ao co offs HRD.out HLO.out pi (by omega) (di : Int) (by omega) rs w2 hs)
   clear hpi hdi hm6
   have HCK := A0_ ck
   clear ck
   cases hl : leavesP parts offs (pi : Int) (di : Int) with
   | false =>
    rw [hl] at HLE
    have HN := A0_ (show freeK parts offs (m + 1) = freeK parts offs m by rw [HSC.out, hl, if_neg (by simp), List.append_nil])
    clear hl HSC HML
    go_wp2_with (first
     | (go_at_call 93; refine (HLE.out _ _ HS.out).mono ?_; rintro e wt_ ⟨rfl, hs_⟩; replace HS := A0_ (hs_); clear hs_))
    go_roundg k1
    case measure => omega
    case rel =>
     rw [HW.out]
     refine ⟨m + 1, A, c, rfl, by rw [HN.out], ⟨by have := HCK.out; omega, by have := HX.out; omega⟩, ⟨?_⟩⟩
     rw [HN.out]
     exact HS.out
   | true =>
    rw [hl] at HLE
    have HN := A0_ (show freeK parts offs (m + 1) = freeK parts offs m ++ [(m : Int)] by rw [HSC.out, hl, if_pos rfl])
    clear hl HSC
    go_wp2_with (first
     | (go_at_call 93; refine (HLE.out _ _ HS.out).mono ?_; rintro e wt_ ⟨rfl, hs_⟩; replace HS := A0_ (hs_); clear hs_)
     | ((with_reducible refine gate_builtin (b := .append) (xs := #[.tmp 24, .tmp 26]) rfl ?_); at_builtin; obtain ⟨fp_, ho_, hf_, hc_⟩ := Sp.row HS.out (i := 3) rfl; refine Kd.R_append kI (w0 := w0) w0.heap.size rfl (.tmp 24) (.tmp 26) 53 2 (.int .i64 0) 8 rfl Try.underlying53 info2 rfl (by decide) (by omega) (.slice A (freeK parts offs m).length c) (freeK parts offs m) ((m : Int)) ([.int .i64 (m : Int)]) _ (fun _ => False) rfl rfl rfl (fun _ hk => hk.elim) (fun _ h => Or.inr h) ho_ HS.out.below HS.out.below.size ?aL ?_; (case aL => have := HML.out; have := HX.out; have := HT.out; omega); intro va_ wa_ ho hb hg hat; replace HS := A0_ (hc_ _ _ _ ho hg); clear ho hb hg hat hc_ hf_ ho_ fp_; obtain ⟨A2, c2_, ev_⟩ := Sp.slice HS.out (i := 3) rfl; subst ev_; rw [← HN.out] at HS))
    go_roundg k1
    case measure => omega
    case rel =>
     rw [HW.out]
     exact ⟨m + 1, A2, c2_, rfl, by rw [HN.out, List.length_append]; rfl, ⟨by have := HCK.out; omega, by have := HX.out; omega⟩, HS⟩
  ·have ck0 : decide (m < T) = false := decide_eq_false ck
   have ck1 := eq_false ck
   have ck2 : decide ((m : Int) < (T : Int)) = false := decide_eq_false (by omega)
   have ck3 : ((m : Int) < (T : Int)) = False := eq_false (by omega)
   have hm : m = T := by have := HX.out; omega
   have HS_ := A0_ (show Sp w0 ([Res.row kI 2 w0.heap.size (.slice A (freeK parts offs T).length c) (freeK parts offs T), frBlk g gM Ap cp parts, frMemo gM parts, r] ++ rest) wr by
    have h := HS.out
    rw [hm] at h
    exact Sp.arr (pre := [frBlk g gM Ap cp parts, frMemo gM parts, r, Res.row kI 2 w0.heap.size (.slice A (freeK parts offs T).length c) (freeK parts offs T)]) (rest := rest) [3, 0, 1, 2] h rfl rfl)
   have HM := A0_ hm
   clear HS hm ck
   have HS := HS_
   clear HS_
   go_wp2
   go_ret
   exact ⟨A, c, by first | rfl | (rw [HM.out]; rfl), HS.out⟩
section
attribute [local go_sem] max2_int min2_int max_two min_two max_three min_three max_four min_four
def slices_Reverse_int64_int64.l0 : Nat → List Int → Int → Int → Option (List Int)
  | 0, _, _, _ => none
  | k + 1, x0, x2, x3 => if x2 < x3 then (if 0 ≤ x3 then (if x3 < (x0.length : Int) then (if 0 ≤ x2 then (if x2 < (x0.length : Int) then (slices_Reverse_int64_int64.l0 k ((x0.set (x2 : Int).toNat (rd x0 x3)).set (x3 : Int).toNat (rd x0 x2)) (wrap64 (x2 + 1)) (wrap64 (x3 - 1))) else (none)) else (none)) else (none)) else (none)) else (some x0)
def slices_Reverse_int64_int64.f (k : Nat) (l0 : List Int) : Option (List Int) := slices_Reverse_int64_int64.l0 k l0 0 (wrap64 ((l0.length : Int) - 1))
def slices_Reverse_int64_int64.T3 : Bool × List (List Nat × List Nat) := (true, [([], []), ([], []), ([], []), ([], []), ([], []), ([], []), ([4, 5], [4, 5]), ([6], [6]), ([], []), ([], []), ([8, 9], [8, 9]), ([10], [10]), ([0, 1, 0, 1, 4, 5, 6, 7, 11], [0, 1]), ([12, 7, 0, 1, 4, 5, 6, 7, 11], [7, 12]), ([2, 3, 0, 1, 2, 3, 4, 5, 6, 7, 8, 9, 10, 11, 12, 13], [2, 3]), ([14, 11, 13, 0, 1, 2, 3, 4, 5, 6, 7, 8, 9, 10, 11, 12, 13], [11, 14])])
def slices_Reverse_int64_int64.B3 : List Nat := [0, 0, 0, 0, 0, 0, 48, 112, 0, 0, 768, 1792, 4083, 8179, 16383, 32767]
theorem slices_Reverse_int64_int64.tab3 : rtab .any (opsOf Try.f95 3) = slices_Reverse_int64_int64.T3 := by kernel_rfl
theorem slices_Reverse_int64_int64.bits3 : waitsOk slices_Reverse_int64_int64.T3.2 slices_Reverse_int64_int64.B3 = true := by kernel_rfl
set_option maxHeartbeats 8000000 in
set_option maxRecDepth 100000 in
theorem slices_Reverse_int64_int64.calls (k : Nat) (P0_ : Nat → Prop) (u9000_ : Value) (l0 : List Int) (r : List Int) (w0 w : World) (hB : Below w0.heap.size w0 w) (ho0 : Kd.R (Kd.int .i64) 2 w w0.heap.size P0_ u9000_ l0) (h : slices_Reverse_int64_int64.f k l0 = some r) :
    Calls Try.prog 95 #[u9000_] w fun e w' => e = .returned (.tuple #[]) ∧ Kd.R (Kd.int .i64) 2 w' w0.heap.size (fun k_ => (P0_ k_ ∨ w.heap.size ≤ k_)) u9000_ r ∧ Below w0.heap.size w0 w' ∧ Kept w w' (fun k_ => P0_ k_) := by
 have HO0 := A0_ (show Kd.R (Kd.int .i64) 2 w w0.heap.size (fun k_ => (P0_ k_ ∨ w.heap.size ≤ k_)) u9000_ l0 from Kd.R_mono ho0 (fun k_ hk => (.inl hk)))
 have HK := A0_ (Kept.refl w (fun k_ => P0_ k_))
 (have HW0 := A0_ hB.size); (have HB := A0_ hB); clear hB; (have H : (slices_Reverse_int64_int64.l0 k l0 0 (wrap64 ((l0.length : Int) - 1))) = some r := h); clear h; (have H' := A0_ H); clear H; (obtain ⟨Ao2, co2, eo2⟩ := Kd.R_slice HO0.out); subst eo2; (go_enter Try.func95, Try.ntmps95); go_wp2
 go_loopg [2, 3] k (fun kq v2 v3 w' => ∃ (x0_1 : List Int) (x2_1 : Int) (x3_1 : Int), v2 = .int .i64 x2_1 ∧ v3 = .int .i64 x3_1 ∧ Aside0 (slices_Reverse_int64_int64.l0 kq x0_1 x2_1 x3_1 = some r) ∧ Aside0 (kq ≤ k) ∧ Aside0 (Kd.R (Kd.int .i64) 2 w' w0.heap.size (fun k_ => (P0_ k_ ∨ w.heap.size ≤ k_)) (.slice Ao2 l0.length co2) x0_1) ∧ Aside0 (Kept w w' (fun k_ => P0_ k_)) ∧ Aside0 (Below w0.heap.size w0 w'))
 case atStart => exact ⟨(l0), (0), (wrap64 ((l0.length : Int) - 1)), (by first | rfl | (simp; done) | (simp [*]; done)), (by first | rfl | (simp; done) | (simp [*]; done)), H', ⟨Nat.le_refl _⟩, ⟨by (with_reducible repeat (first | apply Ra_ | apply Rn_ | apply Rd_)); exact HO0.out⟩, ⟨by repeat (first | (with_reducible first | exact HK.out | apply Kept.alloc | apply Kept.drewN | apply Kept.drew) | exact HK.out)⟩, ⟨by repeat (first | (with_reducible first | exact HB.out | apply ba_ | apply bn_ | apply bd_) | exact HB.out)⟩⟩
 case round =>
  clear H'; (try clear p2); (obtain ⟨x0_1, x2_1, x3_1, rfl, rfl, HA, HK1, HO_0, HK, HB⟩ := hrel); (have hl0_1 := (Kd.R_reads' HO_0.out).1); (rw [hl0_1] at HO_0); ((try simp only [hl0_1]))
  cases gk with
  | zero => exact absurd HA.out (by simp [slices_Reverse_int64_int64.l0])
  | succ k1 =>
   (have H := HA.out); clear HA; (simp only [slices_Reverse_int64_int64.l0] at H); (by_cases c3 : x2_1 < x3_1)
   ·(rw [if_pos c3] at H); (have c3b0 : decide (x2_1 < x3_1) = true := decide_eq_true c3); clear c3; (by_cases c4 : 0 ≤ x3_1)
    ·(rw [if_pos c4] at H); (have c4b0 : decide (0 ≤ x3_1) = true := decide_eq_true c4); clear c4; (by_cases c5 : x3_1 < (x0_1.length : Int))
     ·(rw [if_pos c5] at H); (have c5b0 : decide (x3_1 < (x0_1.length : Int)) = true := decide_eq_true c5); clear c5; (by_cases c6 : 0 ≤ x2_1)
      ·(rw [if_pos c6] at H); (have c6b0 : decide (0 ≤ x2_1) = true := decide_eq_true c6); clear c6; (by_cases c7 : x2_1 < (x0_1.length : Int))
       ·(rw [if_pos c7] at H); (have c7b0 : decide (x2_1 < (x0_1.length : Int)) = true := decide_eq_true c7); clear c7; (obtain ⟨y471, hy471⟩ : ∃ y_ : List Int, y_ = (x0_1.set (x2_1 : Int).toNat (rd x0_1 x3_1)) := ⟨_, rfl⟩); (replace H : (slices_Reverse_int64_int64.l0 k1 (y471.set (x3_1 : Int).toNat (rd x0_1 x2_1)) (wrap64 (x2_1 + 1)) (wrap64 (x3_1 - 1))) = some r := by first | (rw [hy471]; with_reducible exact H) | (have H2_ := (Option.bind_some _ _).symm.trans H; rw [hy471]; with_reducible exact H2_) | (have H2_ := (Option.bind_some _ _).symm.trans H; with_reducible exact H2_) | with_reducible exact H | (rw [hy471]; exact H) | exact H); (have Ny471 := A0_ hy471); clear hy471; (obtain ⟨y472, hy472⟩ : ∃ y_ : List Int, y_ = (y471.set (x3_1 : Int).toNat (rd x0_1 x2_1)) := ⟨_, rfl⟩); (replace H : (slices_Reverse_int64_int64.l0 k1 y472 (wrap64 (x2_1 + 1)) (wrap64 (x3_1 - 1))) = some r := by first | (rw [hy472]; with_reducible exact H) | (have H2_ := (Option.bind_some _ _).symm.trans H; rw [hy472]; with_reducible exact H2_) | (have H2_ := (Option.bind_some _ _).symm.trans H; with_reducible exact H2_) | with_reducible exact H | (rw [hy472]; exact H) | exact H); (have Ny472 := A0_ hy472); clear hy472; (have H' := A0_ H); clear H; (try go_wp2); (have n0_ := A0_ (Kd.R_drew HO_0.out)); (have n1_ := A0_ (Kept.drew HK.out)); (have n2_ := A0_ (below_drew1 HB.out)); clear HO_0; clear HK; clear HB; (have HO_0 := n0_); (have HK := n1_); (have HB := n2_); clear n0_ n1_ n2_; (have p469 : 0 ≤ (x3_1 : Int) := of_decide_eq_true as_); (have q469 : x3_1 < (x0_1.length : Int) := of_decide_eq_true as_); (obtain ⟨ad469, e469, hx469_0⟩ := Kd.at_int (Kd.R_reads' HO_0.out).2.2 x3_1 p469 q469); (cases e469); (replace p469 := eq_true p469); (replace q469 := eq_true q469); (have p470 : 0 ≤ (x2_1 : Int) := of_decide_eq_true as_); (have q470 : x2_1 < (x0_1.length : Int) := of_decide_eq_true as_); (obtain ⟨ad470, e470, hx470_0⟩ := Kd.at_int (Kd.R_reads' HO_0.out).2.2 x2_1 p470 q470); (obtain rfl : ad469 = ad470 := (by injection e470)); (replace p470 := eq_true p470); (replace q470 := eq_true q470); (have p8 : 0 ≤ (x2_1 : Int) := of_decide_eq_true as_); (have q8 : (x2_1 : Int) < ((x0_1.length : Int) : Int) := of_decide_eq_true as_); (obtain ⟨go8, co8, eo8, gb8, gl8, cl8, HG8⟩ := Kd.R_form HO_0.out (by omega)); ((first | cases eo8 | (injection eo8 with ea_ en_ ec_; (first | subst ea_ | (injection ea_ with ea_; subst ea_)); subst ec_; clear en_))); (have GB8 := A0_ gb8); (have GG8 := A0_ HG8); clear gb8 gl8 HG8; (have HMgo8 := A0_ (show (P0_ go8 ∨ w.heap.size ≤ go8) from (HO_0.out.1 _ rfl))); ((first | simp only [add_plain] at hx469_0 | skip)); ((first | simp only [add_plain] at hx470_0 | skip)); (obtain ⟨hx8_0, hf8_0⟩ := Kd.R_celln 0 HO_0.out (x2_1 : Int) p8 q8); (replace p8 := eq_true p8); (replace q8 := eq_true q8); (have HP11 := Kd.R_putn HO_0.out (x2_1 : Int) (rd x0_1 x3_1)); (rw [← Ny471.out] at HP11); (have HQ11 := A0_ HP11); clear HP11; (have p9 : 0 ≤ (x3_1 : Int) := of_decide_eq_true as_); (have q9 : (x3_1 : Int) < ((x0_1.length : Int) : Int) := of_decide_eq_true as_); (obtain ⟨hx9_0, hf9_0⟩ := Kd.R_celln 0 HQ11.out (x3_1 : Int) p9 q9); (replace p9 := eq_true p9); (replace q9 := eq_true q9); (have HP12 := Kd.R_putn HQ11.out (x3_1 : Int) (rd x0_1 x2_1)); (rw [← Ny472.out] at HP12); (have HQ12 := A0_ HP12); clear HP12
        refine start_ (n := 16) (S := fun w' => w'.cell? ⟨go8, (x3_1).toNat, none⟩ = some (.int .i64 (rd x0_1 x3_1)) ∧ w'.cell? ⟨go8, (x2_1).toNat, none⟩ = some (.int .i64 (rd x0_1 x2_1))) (ds := [13, 15]) #[ff,ff,ff,ff,ff,ff,ff,ff,ff,ff,ff,ff,ff,ff,ff,ff] (by kernel_rfl) rfl rfl ⟨hx469_0, hx470_0⟩ (fun hHeld => ?_); refine with_tabW slices_Reverse_int64_int64.tab3 slices_Reverse_int64_int64.bits3 (fun HT_ HW_ => ?_)
        (generalize wr.drew = w10 at HO_0 HK HB GG8 HQ11 HQ12 hf8_0 hf9_0 hx469_0 hx470_0 hx8_0 hx9_0 hHeld ⊢); (refine on_ 0 (some 14) ?_); (refine on_ 1 (some 15) ?_); (refine on_ 2 (some 16) ?_); (refine on_ 3 (some 17) ?_); (refine on_ 4 (some 18) ?_); (refine on_ 5 (some 19) ?_); (refine on_ 6 (some 20) ?_); (refine on_ 8 (some 22) ?_); (refine on_ 9 (some 23) ?_); (refine on_ 10 (some 24) ?_); (refine tk_ 7 (some 21) ?_); (refine tk_ 11 (some 25) ?_); (refine on_ 12 (some 26) ?_)
        refine ol_ 13 (none) (fun K hK => ?_)
        (refine skip_ (w1 := ?_) (by rfl) rfl ?_ ?_); rotate_left
        ·go_simp; rfl
        (refine hK.out _ _ ?_); clear hK K; (refine on_ 14 (some 27) ?_)
        refine ol_ 15 (none) (fun K hK => ?_)
        (refine skip_ (w1 := ?_) (by rfl) rfl ?_ ?_); rotate_left
        ·go_simp; rfl
        (refine hK.out _ _ ?_); clear hK K; (refine dn_ ?_); (try go_wp2); ((try simp only [← hl0_1])); (go_roundg k1)
        case measure => have := HK1.out; omega
        case rel => exact ⟨(y472), (wrap64 (x2_1 + 1)), (wrap64 (x3_1 - 1)), (by first | rfl | (simp; done) | (simp [*]; done)), (by first | rfl | (simp; done) | (simp [*]; done)), H', ⟨by have := HK1.out; omega⟩, ⟨by (try simp only [hl0_1]); (with_reducible repeat (first | apply Ra_ | apply Rn_ | apply Rd_)); exact HQ12.out⟩, ⟨by repeat (first | (with_reducible first | exact HK.out | apply Kept.alloc | apply Kept.drewN | apply Kept.drew | refine Kept.setCell ?_ HMgo8.out _ | refine Kept.setCell ?_ HMgo8.out _) | exact HK.out)⟩, ⟨by repeat (first | (with_reducible first | exact HB.out | apply ba_ | apply bn_ | apply bd_ | refine below_set ?_ GB8.out | refine below_set ?_ GB8.out) | exact HB.out)⟩⟩
       ·(rw [if_neg c7] at H); (exact absurd H (by simp))
      ·(rw [if_neg c6] at H); (exact absurd H (by simp))
     ·(rw [if_neg c5] at H); (exact absurd H (by simp))
    ·(rw [if_neg c4] at H); (exact absurd H (by simp))
   ·(rw [if_neg c3] at H); (have c3b0 : decide (x2_1 < x3_1) = false := decide_eq_false c3); clear c3; (obtain rfl := Option.some.inj H); go_wp2; (first | go_end0 | ((try simp only [Exit.inBlock, Exit.then]); refine bodyPost_ret (results_none rfl _ _ _) rfl ?_)); (exact ⟨er_, (by first | exact (by (with_reducible repeat (first | apply Ra_ | apply Rn_ | apply Rd_)); exact HO_0.out) | (simp only [hl0_1]; exact (by (with_reducible repeat (first | apply Ra_ | apply Rn_ | apply Rd_)); exact HO_0.out))), by repeat (first | (with_reducible first | exact HB.out | apply ba_ | apply bn_ | apply bd_) | exact HB.out), by repeat (first | (with_reducible first | exact HK.out | apply Kept.alloc | apply Kept.drewN | apply Kept.drew) | exact HK.out)⟩)
end
theorem rev_ev (l : List Int) (h : l.length ≤ 1048576) : Ev (fun k => slices_Reverse_int64_int64.f k l) l.reverse := by
 by_cases h0 : l.length = 0
 ·have : l = [] := List.length_eq_zero_iff.1 h0
  subst this
  refine Ev.congr (f := fun k => slices_Reverse_int64_int64.l0 k [] 0 (-1)) (fun k => by unfold slices_Reverse_int64_int64.f; rw [wrap_id (by simp) (by simp)]; rfl) (Ev.step (f := fun _ => some []) (fun k => ?_) (Ev.now _))
  simp only [slices_Reverse_int64_int64.l0]
  rw [if_neg (by omega)]
 have key : ∀ (n j : Nat) (s : List Int), l.length - j = n → 2 * j ≤ l.length → s.length = l.length → (∀ i : Nat, i < l.length → s.getD i 0 = if i < j ∨ l.length - j ≤ i then l.getD (l.length - 1 - i) 0 else l.getD i 0) → Ev (fun k => slices_Reverse_int64_int64.l0 k s (j : Int) ((l.length : Int) - 1 - j)) l.reverse := by
  intro n
  induction n using Nat.strongRecOn with
  | _ n ih =>
   intro j s hn hj hs hi
   by_cases c : (j : Int) < (l.length : Int) - 1 - j
   ·have hw1 := wrap_succ j (by omega)
    have hw2 : wrap64 ((l.length : Int) - 1 - j - 1) = (l.length : Int) - 1 - ((j + 1 : Nat) : Int) := by rw [wrap_id (by omega) (by omega)]; omega
    have e3 : ((l.length : Int) - 1 - j).toNat = l.length - 1 - j := by omega
    refine Ev.step (f := fun k => slices_Reverse_int64_int64.l0 k ((s.set j (rd s ((l.length : Int) - 1 - j))).set (l.length - 1 - j) (rd s (j : Int))) ((j + 1 : Nat) : Int) ((l.length : Int) - 1 - ((j + 1 : Nat) : Int))) (fun k => ?_) (ih (l.length - (j + 1)) (by omega) (j + 1) _ rfl (by omega) (by simp [hs]) (fun i hil => ?_))
    ·simp only [slices_Reverse_int64_int64.l0, hw1, hw2, e3, Int.toNat_natCast]
     rw [if_pos c, if_pos (by omega), if_pos (by omega), if_pos (by omega), if_pos (by omega)]
    ·have ra : rd s ((l.length : Int) - 1 - j) = s.getD (l.length - 1 - j) 0 := by unfold rd; rw [e3]
     have rb : rd s (j : Int) = s.getD j 0 := by unfold rd; rw [Int.toNat_natCast]
     rw [ra, rb]
     have h1 := hi i hil
     have h2 := hi j (by omega)
     have h3 := hi (l.length - 1 - j) (by omega)
     rw [if_neg (by omega)] at h2 h3
     rw [h2, h3]
     simp only [List.getD_eq_getElem?_getD, List.getElem?_set] at h1 ⊢
     by_cases c1 : l.length - 1 - j = i
     ·subst c1
      rw [if_pos rfl, if_pos (by simp [hs]; omega), if_pos (by omega)]
      rw [show l.length - 1 - (l.length - 1 - j) = j by omega]
      simp
     ·rw [if_neg c1]
      by_cases c2 : j = i
      ·subst c2
       rw [if_pos rfl, if_pos (by omega), if_pos (by omega)]
       simp
      ·rw [if_neg c2, h1]
       by_cases c3 : i < j ∨ l.length - j ≤ i
       ·rw [if_pos c3, if_pos (by omega)]
       ·rw [if_neg c3, if_neg (by omega)]
   ·refine Ev.step (f := fun _ => some s) (fun k => by simp only [slices_Reverse_int64_int64.l0]; rw [if_neg c]) ?_
    have : s = l.reverse := by
     refine List.ext_getElem (by rw [hs, List.length_reverse]) (fun i h1 h2 => ?_)
     have h3 := hi i (by omega)
     rw [List.getElem_reverse]
     have e1 : s.getD i 0 = s[i] := by simp [List.getD_eq_getElem?_getD, h1]
     rw [← e1, h3]
     have hb : l.length - 1 - i < l.length := by omega
     have e2 : l.getD (l.length - 1 - i) 0 = l[l.length - 1 - i] := by simp [List.getD_eq_getElem?_getD, hb]
     by_cases c3 : i < j ∨ l.length - j ≤ i
     ·rw [if_pos c3, e2]
     ·rw [if_neg c3, ← e2, show l.length - 1 - i = i by omega]
    rw [this]
    exact Ev.now _
 have h1 := key l.length 0 l rfl (by omega) rfl (fun i hi => by rw [if_neg (by omega)])
 refine Ev.congr (fun k => ?_) h1
 unfold slices_Reverse_int64_int64.f
 rw [wrap_id (by omega) (by omega)]
 simp
abbrev ndsOf (ST : List (RawSt × List Cb)) : List Nd := ST.map nodeOf
theorem st_src {ST : List (RawSt × List Cb)} {i : Nat} (h : i < ST.length) : ((ST.map Prod.fst).getD i default).src = (ndAt (ndsOf ST) i).2.1 ∧ ((ST.map Prod.fst).getD i default).mv = (ndAt (ndsOf ST) i).2.2 := by
 have h1 : i < (ST.map Prod.fst).length := by rw [List.length_map]; exact h
 have h2 : i < (ndsOf ST).length := by rw [List.length_map]; exact h
 have e1 : (ST.map Prod.fst).getD i default = ST[i].1 := by rw [List.getD_eq_getElem?_getD, List.getElem?_eq_getElem h1, Option.getD_some, List.getElem_map]
 have e2 : ndAt (ndsOf ST) i = nodeOf ST[i] := by unfold ndAt; rw [List.getD_eq_getElem?_getD, List.getElem?_eq_getElem h2, Option.getD_some, List.getElem_map]
 rw [e1, e2]
 exact ⟨rfl, rfl⟩
theorem Sp.stCells {w0 w : World} {rs : List Res} {i base n c : Nat} {ad : Addr} {xs : List RawSt} (h : Sp w0 rs w) (hi : rs[i]? = some (Res.row kSt 104 base (.slice (some ad) n c) xs)) (k : Nat) (hk : k < xs.length) :
  w.cell? (ad.add (k * 3)) = some (.slice (xs.getD k default).A (xs.getD k default).n (xs.getD k default).c) ∧ w.cell? ⟨(ad.add (k * 3)).block, (ad.add (k * 3)).off + 1, none⟩ = some (.int .i64 (xs.getD k default).src) ∧ w.cell? ⟨(ad.add (k * 3)).block, (ad.add (k * 3)).off + 2, none⟩ = some (.int .i64 (xs.getD k default).mv) := by
 obtain ⟨ad2, e, h0, h1, h2⟩ := at_St (Sp.reads h hi).2.2 k hk
 injection e with e
 subst e
 exact ⟨h0, h1, h2⟩
set_option maxHeartbeats 4000000 in
set_option maxRecDepth 100000 in
theorem way_calls (w0 : World) (gt g gM gS : Nat) (Ap : Option Addr) (cp : Nat) (parts : List (List Cb)) (As : Option Addr) (cs : Nat) (ST : List (RawSt × List Cb)) (hwf : WfN (ndsOf ST)) (hl : ST.length ≤ 1200) (j : Nat) (hj : j < ST.length) (rest : List Res) (w : World) (hs : Sp w0 (tkRes w0.heap.size gt g gM gS Ap cp parts As cs ST ++ rest) w) :
  Calls Try.prog 67 #[.pointer (some ⟨gt, 0, none⟩), .int .i64 j] w fun e w' => ∃ A c, e = .returned (.slice A (wayN (ndsOf ST) j).length c) ∧ Sp w0 (Res.row kI 2 w0.heap.size (.slice A (wayN (ndsOf ST) j).length c) (wayN (ndsOf ST) j) :: (tkRes w0.heap.size gt g gM gS Ap cp parts As cs ST ++ rest)) w' := by
 have HS := A0_ hs
 have HWF := A0_ hwf
 have HL := A0_ hl
 have HJ := A0_ hj
 obtain ⟨W, hW⟩ : ∃ W, W = wayN (ndsOf ST) j := ⟨_, rfl⟩
 rw [← hW]
 have HWY := A0_ hW
 clear hs hwf hl hj hW
 go_enter Try.func67, Try.ntmps67
 go_wp2_with (first
  | ((with_reducible refine gate_dst (N := 6) rfl ?_); refine Kd.R_lit kI _ 2 ?hg (N := 6) ?hd (xs := ([] : List Int)) (inner := []) (ok := fun _ => True) (okp := fun _ => True) ?hr ?hp (fun _ hk => hk) trivial (Below.refl _ _) (Nat.le_refl _) (by simp) ?_; (case hd => rfl); (case hg => rfl); (case hr => first | (go_simp; done) | (go_simp; rfl)); (case hp => exact (Reps.none _ _)); intro vl_ wl_ ho_ hb_ hg_ hn_; clear hg_ hn_; replace HS := A0_ (Sp.made' HS.out hb_ ho_); clear ho_ hb_; obtain ⟨Al, cl, ev_⟩ := Sp.slice HS.out (i := 0) rfl; subst ev_))
 go_loopg [5, 1] (ST.length + 1) (fun kq v5 v1 w' => ∃ (i : Nat) (o : List Int) (A : Option Addr) (c : Nat), v1 = .int .i64 (i : Int) ∧ v5 = .slice A o.length c ∧ Aside0 (i < kq ∧ i < ST.length ∧ W = wayN (ndsOf ST) i ++ o.reverse ∧ o.length + i ≤ ST.length) ∧ Aside0 (Sp w0 (Res.row kI 2 w0.heap.size (.slice A o.length c) o :: (tkRes w0.heap.size gt g gM gS Ap cp parts As cs ST ++ rest)) w'))
 case atStart => exact ⟨j, [], Al, cl, rfl, rfl, ⟨by have := HJ.out; omega, HJ.out, by rw [HWY.out]; simp, by have := HJ.out; simp; omega⟩, HS⟩
 case round =>
  clear HS
  obtain ⟨i, o, A, c, rfl, rfl, HX, HS⟩ := hrel
  obtain ⟨k1, rfl⟩ : ∃ k1, gk = k1 + 1 := ⟨gk - 1, by have := HX.out; omega⟩
  have hil := HX.out.2.1
  have q0 : (0 ≤ (i : Int)) = True := eq_true (by omega)
  have q1 : ((i : Int) < (ST.length : Int)) = True := eq_true (by omega)
  have q2 : (i < ST.length) = True := eq_true hil
  have ht1 : wr.cell? ⟨gt, 1, none⟩ = some (.slice As ST.length cs) := (cl_ HS 1 1 rfl).trans rfl
  obtain ⟨ads, e, hx0, hx1, hx2⟩ := at_St (Sp.reads HS.out (i := 2) rfl).2.2 i (by rw [List.length_map]; exact hil)
  subst e
  obtain ⟨es, em⟩ := st_src hil
  rw [es] at hx1
  rw [em] at hx2
  have HLT := A0_ (HWF.out i (by rw [List.length_map]; exact hil))
  have HST := A0_ (fun h0 => wayN_step HWF.out (by rw [List.length_map]; exact hil) (j := i) h0)
  have hz : (ndAt (ndsOf ST) i).2.1 < 0 → wayN (ndsOf ST) i = [] := fun h => by unfold wayN wayF; rw [if_pos h]
  have HZ := A0_ hz
  obtain ⟨s, hs⟩ : ∃ s, s = (ndAt (ndsOf ST) i).2.1 := ⟨_, rfl⟩
  obtain ⟨m, hm⟩ : ∃ m, m = (ndAt (ndsOf ST) i).2.2 := ⟨_, rfl⟩
  have HES := A0_ (es.trans hs.symm)
  have HIL := A0_ (show i < (ST.map Prod.fst).length by rw [List.length_map]; exact hil)
  rw [← hs] at hx1 HLT HST HZ
  rw [← hm] at hx2 HST
  clear es em hil hz hs hm hx0
  by_cases cs0 : s < 0
  ·have d0 : decide (0 ≤ s) = false := decide_eq_false (by omega)
   have d1 : (0 ≤ s) = False := eq_false (by omega)
   have d2 : (s < 0) = True := eq_true cs0
   have HW := A0_ (show W = o.reverse by rw [HX.out.2.2.1, HZ.out cs0, List.nil_append])
   obtain ⟨KR, hKR⟩ := (rev_ev o (by have := HX.out; have := HL.out; omega)).rounds
   have HKR := A0_ hKR
   clear cs0 hKR
   go_wp2_with (first
    | (go_at_call 95; obtain ⟨fp_, hr_, hc_⟩ := Sp.markR HS.out (i := 0) rfl; refine (slices_Reverse_int64_int64.calls KR fp_ _ o o.reverse w0 _ HS.out.below hr_ HKR.out).mono ?_; rintro e wv_ ⟨rfl, ho_, hb_, hk_⟩; replace HS := A0_ (hc_ _ _ ho_ hb_ hk_); clear hr_ hc_ ho_ hb_ hk_ fp_ ht1 hx1 hx2))
   go_ret
   refine ⟨A, c, by rw [HW.out, List.length_reverse]; rfl, ?_⟩
   rw [HW.out, List.length_reverse]
   exact HS.out
  ·have d0 : decide (0 ≤ s) = true := decide_eq_true (by omega)
   have d1 : (0 ≤ s) = True := eq_true (by omega)
   have d2 : (s < 0) = False := eq_false cs0
   have HN := A0_ (HST.out cs0)
   have HS0 := A0_ cs0
   clear cs0 HST HZ
   go_wp2_with (first
    | ((with_reducible refine gate_builtin (b := .append) (xs := #[.tmp 16, .tmp 25]) rfl ?_); at_builtin; obtain ⟨fp_, ho_, hf_, hc_⟩ := Sp.row HS.out (i := 0) rfl; refine Kd.R_append kI (w0 := w0) w0.heap.size rfl (.tmp 16) (.tmp 25) 53 2 (.int .i64 0) 8 rfl Try.underlying53 info2 rfl (by decide) (by omega) (.slice A o.length c) (o) (m) ([.int .i64 m]) _ (fun _ => False) rfl rfl rfl (fun _ hk => hk.elim) (fun _ h => Or.inr h) ho_ HS.out.below HS.out.below.size ?aL ?_; (case aL => have := HX.out; have := HL.out; omega); intro va_ wa_ ho hb hg hat; replace HS := A0_ (hc_ _ _ _ ho hg); clear ho hb hg hat hc_ hf_ ho_ fp_; obtain ⟨A2, c2_, ev_⟩ := Sp.slice HS.out (i := 0) rfl; subst ev_; clear ht1 hx1 hx2; have ht1 := (cl_ HS 1 1 rfl).trans rfl; obtain ⟨_, hx1, _⟩ := Sp.stCells HS.out (i := 2) rfl i HIL.out; rw [HES.out] at hx1))
   obtain ⟨i2, hi2⟩ : ∃ i2 : Nat, s = (i2 : Int) := ⟨s.toNat, by have := HS0.out; omega⟩
   have hlt := HLT.out
   have hn := HN.out
   rw [hi2, Int.toNat_natCast] at hn
   rw [hi2] at hlt
   rw [hi2]
   have HN2 := A0_ hn
   have HLT2 := A0_ (show i2 < i by omega)
   clear hi2 hlt hn
   go_roundg k1
   case measure => omega
   case rel => exact ⟨i2, o ++ [m], A2, c2_, rfl, by rw [List.length_append]; rfl, ⟨by have := HX.out; have := HLT2.out; omega, by have := HX.out; have := HLT2.out; omega, by rw [HX.out.2.2.1, HN2.out, List.reverse_append]; simp, by have := HX.out; have := HLT2.out; rw [List.length_append, List.length_singleton]; omega⟩, HS⟩
def exitX (parts : List (List Cb)) : Option (List Nd × Int) := searchX parts (exB parts true) 1201 [(zerosC parts.length, -1, 0)] 0
def exitR (parts : List (List Cb)) : List Int × Int × Int :=
 if asmP parts = true then (match exitX parts with
  | none => ([], 0, 3)
  | some (S, i) => if i < 0 then ([], 0, 4) else (wayN S i.toNat, (freeP parts (ndAt S i.toNat).1).getD 0 0, 0)) else ([], 0, 1)
theorem visit_wf {o : List Cb} {k : Nat} {S S' : List Nd} {m : Int} (h : visitP o k S m = some S') (hw : WfN S) (hk : k < S.length) : WfN S' := by
 unfold visitP at h
 split at h
 ·injection h with h; subst h; exact hw
 ·split at h
  ·injection h with h; subst h; exact hw
  ·split at h
   ·cases h
   ·injection h with h
    subst h
    intro j hj
    rw [List.length_append, List.length_singleton] at hj
    by_cases c : j < S.length
    ·rw [ndAt_app c]; exact hw j c
    ·have : j = S.length := by omega
     subst this
     rw [ndAt_new]
     show (k : Int) < _
     omega
theorem spread_wf {o : List Cb} {k : Nat} : ∀ (ms : List Int) {S S' : List Nd}, ms.foldlM (visitP o k) S = some S' → WfN S → k < S.length → WfN S'
 | [], S, S', h, hw, hk => by
  have : S = S' := Option.some.inj h
  subst this
  exact hw
 | m :: ms, S, S', h, hw, hk => by
  rw [List.foldlM_cons] at h
  obtain ⟨T, h1, h2⟩ := Option.bind_eq_some_iff.1 h
  exact spread_wf ms h2 (visit_wf h1 hw hk) (Nat.lt_of_lt_of_le hk (visit_le h1))
theorem Sp.intCell0 {w0 w : World} {rs : List Res} {i e base n c : Nat} {ad : Addr} {xs : List Int} (h : Sp w0 rs w) (hi : rs[i]? = some (Res.row kI e base (.slice (some ad) n c) xs)) (hn : 0 < n) : w.cell? ad = some (.int .i64 (xs.getD 0 0)) := by
 have := Sp.intCell h hi 0 hn
 rw [Addr.add_zero'] at this
 exact this
def fexF.T7 : Bool × List (List Nat × List Nat) := (true, [([], []), ([0], [0]), ([1], [1]), ([2], [2]), ([], []), ([4], [4]), ([5], [5]), ([6], [6]), ([], []), ([7, 8], [7, 8]), ([9], [9]), ([10], [10]), ([3, 11], [3, 11]), ([12, 12, 0, 1, 2, 3, 4, 5, 6, 7, 8, 9, 10, 11, 12], [12])])
def fexF.B7 : List Nat := [0, 1, 3, 7, 0, 16, 48, 112, 0, 496, 1008, 2032, 4095, 8191]
theorem fexF.tab7 : rtab .any (opsOf Try.f33 7) = fexF.T7 := by kernel_rfl
theorem fexF.bits7 : waitsOk fexF.T7.2 fexF.B7 = true := by kernel_rfl
def fexF.T9 : Bool × List (List Nat × List Nat) := (true, [([], []), ([], []), ([0, 1], [0, 1]), ([], []), ([3], [3]), ([4], [4]), ([2, 2, 0, 1, 2], [2]), ([5, 6, 0, 1, 2, 3, 4, 5, 6], [5]), ([7, 0, 1, 2, 3, 4, 5, 6, 7], [])])
def fexF.B9 : List Nat := [0, 0, 3, 0, 8, 24, 7, 127, 255]
theorem fexF.tab9 : rtab .any (opsOf Try.f33 9) = fexF.T9 := by kernel_rfl
theorem fexF.bits9 : waitsOk fexF.T9.2 fexF.B9 = true := by kernel_rfl
set_option maxHeartbeats 8000000 in
set_option maxRecDepth 100000 in
theorem findExit_calls (Ap : Option Addr) (cp : Nat) (parts : List (List Cb)) (w : World) (hC : kP.C w Ap parts.length parts) (hz : SzOk parts) :
  Calls Try.prog 33 #[.agg #[.slice Ap parts.length cp]] w fun e w' => ∃ v_ : Value, e = .returned (.tuple #[v_, .int .i64 (exitR parts).2.1, .int .i64 (exitR parts).2.2]) ∧ kI.R 2 w' w.heap.size (fun _ => True) v_ (exitR parts).1 ∧ Below w.heap.size w w' := by
 have hu32 := Try.underlying32
 have hu104 := Try.underlying104
 have HS := A0_ (Sp.start w)
 have hia := fun rs w2 (hs : Sp w rs w2) => iIsAsm_calls w Ap cp parts hC hz rs w2 hs
 cases has : asmP parts with
 | false =>
  rw [has] at hia
  have HIA := A0_ hia
  have HST := A0_ (show exitR parts = ([], 0, 1) by unfold exitR; rw [has, if_neg (by simp)])
  clear has hia hC hz
  rw [HST.out]
  go_enter Try.func33, Try.ntmps33
  go_wp2_with (first
   | ((with_reducible refine gate_dst (N := 1) rfl ?_); refine be_ (N := 1) (cs := #[.slice Ap parts.length cp]) (t := 32) ?_; intro ga hgb_ wb_ hcb_ hbb_; replace HS := A0_ (Sp.boxed HS.out hgb_ hcb_ hbb_); clear hgb_ hcb_ hbb_; have ha0 := (cl_ HS 0 0 rfl).trans rfl)
   | (go_at_call 56; refine (HIA.out _ _ HS.out).mono ?_; rintro e wi_ ⟨rfl, hs_⟩; replace HS := A0_ (hs_); clear hs_ ha0))
  go_ret3
  exact ⟨_, rfl, Kd.R_nil kI 2 _ _ _, HS.out.below⟩
 | true =>
  rw [has] at hia
  have HIA := A0_ hia
  have hlen := (asm_of has).1
  have HL := A0_ (show 1 ≤ parts.length ∧ parts.length ≤ 4 by omega)
  have HF := A0_ (show FrOk w Ap parts from fr_at hC hz has)
  have HST := A0_ (show exitR parts = (match exitX parts with
   | none => ([], 0, 3)
   | some (S, i) => if i < 0 then ([], 0, 4) else (wayN S i.toNat, (freeP parts (ndAt S i.toNat).1).getD 0 0, 0)) by unfold exitR; rw [has, if_pos rfl])
  clear has hia hC hz hlen
  obtain ⟨RV, hRV⟩ : ∃ RV, RV = exitR parts := ⟨_, rfl⟩
  have HRV := A0_ (hRV.trans HST.out)
  rw [← hRV]
  clear hRV HST
  have HSR := A0_ (show exitX parts = searchX parts (exB parts true) 1201 [(zerosC parts.length, -1, 0)] 0 from rfl)
  obtain ⟨R, hR⟩ : ∃ R, R = exitX parts := ⟨_, rfl⟩
  rw [← hR] at HSR HRV
  clear hR
  go_enter Try.func33, Try.ntmps33
  go_wp2_with (first
   | ((with_reducible refine gate_dst (N := 1) rfl ?_); refine be_ (N := 1) (cs := #[.slice Ap parts.length cp]) (t := 32) ?_; intro ga hgb_ wb_ hcb_ hbb_; replace HS := A0_ (Sp.boxed HS.out hgb_ hcb_ hbb_); clear hgb_ hcb_ hbb_; have ha0 := (cl_ HS 0 0 rfl).trans rfl)
   | (go_at_call 56; refine (HIA.out _ _ HS.out).mono ?_; rintro e wi_ ⟨rfl, hs_⟩; replace HS := A0_ (hs_); clear hs_ ha0; have ha0 := (cl_ HS 0 0 rfl).trans rfl)
   | (go_at_call 57; refine (newTaking_calls w Ap cp parts HL.out _ _ HS.out).mono ?_; rintro e wt_ ⟨gt, g, gM, gS, As0, cs0, st0, hst_, rfl, hs_⟩; have HST0 := A0_ hst_; clear hst_; replace HS := A0_ (hs_); clear hs_ ha0))
  go_loopg [6] 1202 (fun kq v6 w' => ∃ (k : Nat) (As : Option Addr) (cs : Nat) (ST : List (RawSt × List Cb)), v6 = .int .i64 (k : Int) ∧ Aside0 (k ≤ ST.length ∧ kq + k = 1202 ∧ searchX parts (exB parts true) (1201 - k) (ndsOf ST) k = R ∧ (∀ p ∈ ST, p.2.length = parts.length) ∧ ST.length ≤ 1200 ∧ WfN (ndsOf ST)) ∧ Aside0 (Sp w (tkRes w.heap.size gt g gM gS Ap cp parts As cs ST ++ [Res.blk ga #[.slice Ap parts.length cp] 32]) w'))
  case atStart =>
   have h0 : ndsOf [(st0, zerosC parts.length)] = [(zerosC parts.length, -1, 0)] := by show [nodeOf (st0, zerosC parts.length)] = _; rw [show nodeOf (st0, zerosC parts.length) = (zerosC parts.length, st0.src, st0.mv) from rfl, HST0.out.1, HST0.out.2]
   exact ⟨0, As0, cs0, [(st0, zerosC parts.length)], rfl, ⟨by simp, by omega, by rw [HSR.out, h0], fun p hp => by obtain rfl := List.mem_singleton.1 hp; exact List.length_replicate, by simp, by rw [h0]; exact (rel_start parts.length).wf⟩, HS⟩
  case round =>
   clear HS
   obtain ⟨k, As, cs, ST, rfl, HX, HS⟩ := hrel
   obtain ⟨k1, rfl⟩ : ∃ k1, gk = k1 + 1 := ⟨gk - 1, by have := HX.out; omega⟩
   have htk1 : wr.cell? ⟨gt, 1, none⟩ = some (.slice As ST.length cs) := (cl_ HS 0 1 rfl).trans rfl
   by_cases ck : k < ST.length
   ·have ck0 : decide (k < ST.length) = true := decide_eq_true ck
    have HW := A0_ (wrap_succ k (by have := HX.out; omega))
    obtain ⟨p0, hp0⟩ : ∃ p0, ST[k]? = some p0 := ⟨ST[k], List.getElem?_eq_getElem ck⟩
    have hmem : p0 ∈ ST := List.mem_of_getElem? hp0
    have hgd : (ndAt (ndsOf ST) k).1 = p0.2 := by unfold ndAt; rw [List.getD_eq_getElem?_getD, List.getElem?_map, hp0]; rfl
    have hse := HX.out.2.2.1
    rw [show 1201 - k = (1200 - k) + 1 by have := HX.out; omega] at hse
    unfold searchX at hse
    rw [if_pos (by rw [List.length_map]; exact ck), hgd] at hse
    have hsp := fun w2 hs => spread_calls w Ap cp g gM gS gt parts HF.out HL.out As cs ST k p0 hp0 HX.out.2.2.2.1 HX.out.2.2.2.2.1 [Res.blk ga #[.slice Ap parts.length cp] 32] w2 hs
    have hol := HX.out.2.2.2.1 p0 hmem
    obtain ⟨hpn, hpc⟩ := Sp.poolN HS.out (i := 2) rfl hmem
    have hfc := fun Ao (hA : p0.1.A = some Ao) rs w2 (hs : Sp w ([frBlk g gM Ap cp parts, frMemo gM parts, Res.pool w.heap.size ST] ++ rs) w2) => free_calls w Ap cp g gM parts HF.out (Res.pool w.heap.size ST) Ao p0.1.c p0.2 (hA ▸ Rds.pool hmem) hol rs w2 hs
    have hnd : ((ST.map Prod.fst).getD k default) = p0.1 := by rw [List.getD_eq_getElem?_getD, List.getElem?_map, hp0]; rfl
    have HC := Sp.rds HS.out (i := 2) rfl (Rds.pool hmem)
    have HLE := A0_ (fun S' (h : spreadP parts p0.2 k (ndsOf ST) = some S') => spread_le _ h)
    have HWL := A0_ (fun S' (h : spreadP parts p0.2 k (ndsOf ST) = some S') => spread_wf (o := p0.2) (k := k) _ h HX.out.2.2.2.2.2 (by rw [List.length_map]; exact ck))
    obtain ⟨⟨A0, n0, co, s0, m0⟩, o⟩ := p0
    dsimp only at hpn hpc hol hgd HC hfc hsp hse hnd HLE HWL
    subst hpn
    obtain ⟨Ao, e, hjunk⟩ := HC.2.2 (by have := HL.out; omega)
    subst e
    have HFC := A0_ (hfc Ao rfl)
    have HSP := A0_ hsp
    have HND := A0_ (show (Value.slice ((ST.map Prod.fst).getD k default).A ((ST.map Prod.fst).getD k default).n ((ST.map Prod.fst).getD k default).c) = .slice (some Ao) o.length co by rw [hnd])
    have HKL := A0_ (show k < (ST.map Prod.fst).length by rw [List.length_map]; exact ck)
    have HCK := A0_ (show k < ST.length from ck)
    obtain ⟨fs, hfs⟩ : ∃ fs, fs = freeP parts o := ⟨_, rfl⟩
    have hexb : exB parts true o = decide (0 < fs.length) := by rw [hfs]; rfl
    rw [hexb] at hse
    rw [← hfs] at HFC
    have HGD := A0_ hgd
    have HFS := A0_ hfs
    have HSE := A0_ hse
    obtain ⟨ads, e, _⟩ := at_St (Sp.reads HS.out (i := 1) rfl).2.2 k (by rw [List.length_map]; exact ck)
    subst e
    have q0 : (0 ≤ (k : Int)) = True := eq_true (by omega)
    have q1 : ((k : Int) < (ST.length : Int)) = True := eq_true (by omega)
    have q2 : (k < ST.length) = True := eq_true ck
    clear HC hjunk hfc hsp hpc hol hse hexb hfs hgd hp0 hmem hnd ck
    go_wp2
    have HS_ := A0_ (show Sp w ([tkBlk gt g gS (some ads) ST.length cs, Res.row kSt 104 w.heap.size (.slice (some ads) ST.length cs) (ST.map Prod.fst), Res.pool w.heap.size ST, setR parts.length gS (ST.map Prod.snd), frBlk g gM Ap cp parts, frMemo gM parts, Res.blk ga #[.slice Ap parts.length cp] 32] ++ ([] : List Res)) wr.drew from Sp.drew HS.out)
    clear HS htk1
    have HS := HS_
    clear HS_
    refine start_ (n := 14) (S := fun w' => w'.cell? ⟨gt, 0, none⟩ = some (.pointer (some ⟨g, 0, none⟩)) ∧ w'.cell? ⟨gt, 1, none⟩ = some (.slice (some ads) ST.length cs) ∧ w'.cell? (ads.add (k * 3)) = some (.slice (some Ao) o.length co)) (ds := []) #[false, false, false, false, false, false, false, false, false, false, false, false, false, false] (by kernel_rfl) rfl rfl (⟨(cl_ HS 0 0 rfl).trans rfl, (cl_ HS 0 1 rfl).trans rfl, (HND.out ▸ (Sp.stCells HS.out (i := 1) rfl k HKL.out).1)⟩) (fun hHeld => ?_)
    refine with_tabW fexF.tab7 fexF.bits7 (fun HT_ HW_ => ?_)
    generalize wr.drew = wD at HS hHeld ⊢
    refine on_ 0 (some 22) ?_
    refine on_ 1 (some 23) ?_
    refine on_ 2 (some 24) ?_
    refine tk_ 3 (some 25) ?_
    refine on_ 4 (some 26) ?_
    refine on_ 5 (some 27) ?_
    refine on_ 6 (some 28) ?_
    refine tk_ 7 (some 29) ?_
    refine on_ 8 (some 30) ?_
    refine on_ 9 (some 31) ?_
    refine on_ 10 (some 32) ?_
    refine tk_ 11 (some 33) ?_
    refine o1_ 12 (some 34) (fun K hK => ?_)
    replace HS := A0_ (Sp.arr (pre := [tkBlk gt g gS (some ads) ST.length cs, Res.row kSt 104 w.heap.size (.slice (some ads) ST.length cs) (ST.map Prod.fst), Res.pool w.heap.size ST, setR parts.length gS (ST.map Prod.snd), frBlk g gM Ap cp parts, frMemo gM parts, Res.blk ga #[.slice Ap parts.length cp] 32]) (pre' := [frBlk g gM Ap cp parts, frMemo gM parts, Res.pool w.heap.size ST, tkBlk gt g gS (some ads) ST.length cs, Res.row kSt 104 w.heap.size (.slice (some ads) ST.length cs) (ST.map Prod.fst), setR parts.length gS (ST.map Prod.snd), Res.blk ga #[.slice Ap parts.length cp] 32]) (rest := ([] : List Res)) [4, 5, 2, 0, 1, 3, 6] HS.out rfl rfl)
    refine gs_ Try.func66 #[.pointer (some ⟨g, 0, none⟩), .slice (some Ao) o.length co] ?_
    refine (HFC.out _ _ HS.out).mono ?_
    rintro e wm_ ⟨Am, cm, rfl, hs_⟩
    refine ⟨_, rfl, ?_⟩
    replace HS := A0_ (hs_)
    clear hs_
    refine hK.out _ _ (⟨(cl_ HS 4 0 rfl).trans rfl, (cl_ HS 4 1 rfl).trans rfl, (HND.out ▸ (Sp.stCells HS.out (i := 5) rfl k HKL.out).1)⟩) (fun hHeld => ?_)
    clear hK K
    refine nm_ (some 34) ?_
    refine on_ 13 (some 7) ?_
    refine dn_ ?_
    replace HS := A0_ (Sp.arr (pre := [Res.row kI 2 w.heap.size (.slice Am fs.length cm) fs, frBlk g gM Ap cp parts, frMemo gM parts, Res.pool w.heap.size ST, tkBlk gt g gS (some ads) ST.length cs, Res.row kSt 104 w.heap.size (.slice (some ads) ST.length cs) (ST.map Prod.fst), setR parts.length gS (ST.map Prod.snd), Res.blk ga #[.slice Ap parts.length cp] 32]) (pre' := [tkBlk gt g gS (some ads) ST.length cs, Res.row kSt 104 w.heap.size (.slice (some ads) ST.length cs) (ST.map Prod.fst), Res.pool w.heap.size ST, setR parts.length gS (ST.map Prod.snd), frBlk g gM Ap cp parts, frMemo gM parts, Res.row kI 2 w.heap.size (.slice Am fs.length cm) fs, Res.blk ga #[.slice Ap parts.length cp] 32]) (rest := ([] : List Res)) [4, 5, 3, 6, 1, 2, 0, 7] HS.out rfl rfl)
    by_cases hz : 0 < fs.length
    ·have z0 : decide (0 < fs.length) = true := decide_eq_true hz
     have z1 := eq_true hz
     obtain ⟨adf, e, _⟩ := Kd.at_int (Sp.reads HS.out (i := 6) rfl).2.2 (0 : Int) (by omega) (by omega)
     subst e
     have HNE := A0_ (show 0 < fs.length from hz)
     obtain ⟨f0, hf0⟩ : ∃ f0, f0 = fs.getD 0 0 := ⟨_, rfl⟩
     have HF0 := A0_ (show Value.int .i64 (fs.getD 0 0) = .int .i64 f0 by rw [hf0])
     have HR := A0_ (show RV = (wayN (ndsOf ST) k, f0, 0) by
      have hse := HSE.out
      rw [if_pos z0] at hse
      rw [HRV.out, ← hse]
      dsimp only
      rw [if_neg (by omega), Int.toNat_natCast, HGD.out, ← HFS.out, hf0])
     clear hz hf0
     go_wp2
     replace HS := A0_ (Sp.drew HS.out)
     refine start_ (n := 9) (S := fun w' => w'.cell? adf = some (.int .i64 f0)) (ds := []) #[false, false, false, false, false, false, false, false, false] (by kernel_rfl) rfl rfl ((HF0.out ▸ Sp.intCell0 HS.out (i := 6) rfl HNE.out)) (fun hHeld => ?_)
     refine with_tabW fexF.tab9 fexF.bits9 (fun HT_ HW_ => ?_)
     generalize wm_.drew = wD at HS hHeld ⊢
     refine on_ 0 (some 38) ?_
     refine on_ 1 (some 39) ?_
     refine on_ 3 (some 41) ?_
     refine on_ 4 (some 42) ?_
     refine tk_ 5 (some 43) ?_
     refine o1_ 2 (some 40) (fun K hK => ?_)
     refine gs_ Try.func67 #[.pointer (some ⟨gt, 0, none⟩), .int .i64 k] ?_
     refine (way_calls w gt g gM gS Ap cp parts (some ads) cs ST HX.out.2.2.2.2.2 HX.out.2.2.2.2.1 k HCK.out ([Res.row kI 2 w.heap.size (.slice (some adf) fs.length cm) fs, Res.blk ga #[.slice Ap parts.length cp] 32] ++ ([] : List Res)) _ HS.out).mono ?_
     rintro e wv_ ⟨Av, cv, rfl, hs_⟩
     refine ⟨_, rfl, ?_⟩
     replace HS := A0_ (hs_)
     clear hs_
     refine hK.out _ _ ((HF0.out ▸ Sp.intCell0 HS.out (i := 7) rfl HNE.out)) (fun hHeld => ?_)
     clear hK K
     refine nm_ (some 40) ?_
     refine on_ 6 (some 2) ?_
     refine on_ 7 (some 3) ?_
     refine on_ 8 (some 4) ?_
     refine dn_ ?_
     try go_wp2
     go_ret3
     rw [HR.out]
     obtain ⟨fp_, hp_, _⟩ := Sp.get HS.out (i := 0) rfl
     exact ⟨_, rfl, Kd.R_mono hp_ (fun _ _ => trivial), HS.out.below⟩
    ·have z0 : decide (0 < fs.length) = false := decide_eq_false hz
     have z1 := eq_false hz
     have hse := HSE.out
     rw [if_neg (by rw [z0]; simp)] at hse
     clear HSE hz
     replace HS := A0_ (show Sp w (tkRes w.heap.size gt g gM gS Ap cp parts (some ads) cs ST ++ [Res.blk ga #[.slice Ap parts.length cp] 32]) _ from Sp.out HS.out 6)
     cases hv : spreadP parts o k (ndsOf ST) with
     | none =>
      have hsp := fun w2 hs => HSP.out w2 hs
      rw [show spreadP parts o k (ST.map nodeOf) = none from hv] at hsp
      rw [hv] at hse
      have HSP2 := A0_ hsp
      have HR := A0_ (show R = none from hse.symm)
      clear hse hsp hv HSP
      go_wp2_with (first
       | (go_at_call 58; refine (HSP2.out _ HS.out).mono ?_; rintro e ws_ hp_; obtain ⟨rfl, hb_⟩ := hp_; have HBL := A0_ hb_; clear hb_))
      go_ret3
      have hrv : RV = ([], 0, 3) := by rw [HRV.out, HR.out]
      exact ⟨_, by rw [hrv]; rfl, by rw [hrv]; exact Kd.R_nil kI 2 _ _ _, HBL.out⟩
     | some S' =>
      have hsp := fun w2 hs => HSP.out w2 hs
      rw [show spreadP parts o k (ST.map nodeOf) = some S' from hv] at hsp
      rw [hv] at hse
      have HSP2 := A0_ hsp
      have HLE2 := A0_ (HLE.out S' hv)
      have HWL2 := A0_ (HWL.out S' hv)
      have HSE := A0_ (show searchX parts (exB parts true) (1200 - k) S' (k + 1) = R from hse)
      clear hse hsp hv HSP HLE HWL
      go_wp2_with (first
       | (go_at_call 58; refine (HSP2.out _ HS.out).mono ?_; rintro e ws_ hp_; obtain ⟨rfl, As2, cs2, ST2, hm2_, hl2_, h12_, hs_⟩ := hp_; have HM2 := A0_ hm2_; have HL2 := A0_ hl2_; have H122 := A0_ h12_; replace HS := A0_ (hs_); clear hs_ hm2_ hl2_ h12_))
      go_roundg k1
      case measure => omega
      case rel =>
       rw [HW.out]
       exact ⟨k + 1, As2, cs2, ST2, rfl, ⟨by have h1 := HLE2.out; have h2 := HCK.out; rw [← HM2.out, List.length_map, List.length_map] at h1; omega, by have := HX.out; omega, by rw [show ndsOf ST2 = S' from HM2.out, show 1201 - (k + 1) = 1200 - k by omega]; exact HSE.out, HL2.out, H122.out, by rw [show ndsOf ST2 = S' from HM2.out]; exact HWL2.out⟩, HS⟩
   ·have ck0 : decide (k < ST.length) = false := decide_eq_false ck
    have HR := A0_ (show R = some (ndsOf ST, -1) by
     have hse := HX.out.2.2.1
     rw [show 1201 - k = (1200 - k) + 1 by have := HX.out; omega] at hse
     unfold searchX at hse
     rw [if_neg (by rw [List.length_map]; exact ck)] at hse
     exact hse.symm)
    clear ck
    go_wp2
    go_ret3
    have hrv : RV = ([], 0, 4) := by rw [HRV.out, HR.out]; rfl
    exact ⟨_, by rw [hrv]; rfl, by rw [hrv]; exact Kd.R_nil kI 2 _ _ _, HS.out.below⟩
theorem leaves_ev (parts : List (List Cb)) (offs : List Cb) (hl : offs.length = parts.length) (h8 : parts.length ≤ 8) (hsz : ∀ p ∈ parts, p.length ≤ 1048576) (hp : ∀ p ∈ parts, ∀ c ∈ p, inCb c 0 7 = true) (ho : ∀ j : Nat, j < offs.length → inCb (oAt offs j) (-12) 12 = true) (p : Nat) (hpl : p < parts.length) (d : Int) (hd : 0 ≤ d ∧ d < 6) :
  Ev (fun k => spec_l27Leaves.f k parts offs (p : Int) d) (leavesP parts offs p d) := Ev.val fun k => by
 unfold spec_l27Leaves.f
 rw [if_pos ⟨⟨hl, h8⟩, hsz, hp, fun c hc => by
  obtain ⟨i, hi, rfl⟩ := List.mem_iff_getElem.1 hc
  have e : oAt offs i = offs[i] := by simp [oAt, List.getD_eq_getElem?_getD, hi]
  rw [← e]
  exact ho i hi, ⟨by omega, by omega⟩, hd⟩]
theorem free_ev (parts : List (List Cb)) (offs : List Cb) (hl : offs.length = parts.length) (h8 : parts.length ≤ 8) (hsz : ∀ p ∈ parts, p.length ≤ 1048576) (hp : ∀ p ∈ parts, ∀ c ∈ p, inCb c 0 7 = true) (ho : ∀ j : Nat, j < offs.length → inCb (oAt offs j) (-12) 12 = true) :
  Ev (fun k => spec_l27Free.f k parts offs) (freeP parts offs) := by
 obtain ⟨r, hr, hk⟩ : ∃ r, r = freeP parts offs ∧ Ev (fun k => spec_l27Free.l0 k offs [] 0 parts) r := by
  refine ev_inv0 (6 * parts.length) (fun (s : List Int) j => s = freeK parts offs j) (fun r => r = freeP parts offs) (fun s i k => spec_l27Free.l0 k offs s i parts) (fun s hI => ?_) (fun s j hj hI => ?_) [] rfl
  ·refine ⟨s, hI, Ev.step (f := fun _ => some s) (fun k => by simp only [spec_l27Free.l0]; rw [wrap_id (by omega) (by omega), if_neg (by omega)]) (Ev.now _)⟩
  ·have hw := wrap_succ j (by omega)
   have hsl : s.length < 17592186044416 := by
    rw [hI]
    have := freeK_len parts offs j
    omega
   have e1 : wrap64 ((j : Int).tdiv 6) = ((j / 6 : Nat) : Int) := by rw [show (j : Int).tdiv 6 = ((j / 6 : Nat) : Int) from rfl, wrap_id (by omega) (by omega)]
   have e2 : (j : Int).tmod 6 = ((j % 6 : Nat) : Int) := rfl
   have hle := leaves_ev parts offs hl h8 hsz hp ho (j / 6) (by omega) ((j % 6 : Nat) : Int) (by omega)
   have hst := freeK_succ parts offs j
   refine .inr ⟨freeK parts offs (j + 1), rfl, fun r h2 => ?_⟩
   refine Ev.step (f := fun k => (spec_l27Leaves.f k parts offs ((j / 6 : Nat) : Int) ((j % 6 : Nat) : Int)).bind fun t => if t = true then spec_l27Free.l0 k offs (s ++ [(j : Int)]) ((j + 1 : Nat) : Int) parts else spec_l27Free.l0 k offs s ((j + 1 : Nat) : Int) parts) (fun k => ?_) (Ev.bind hle ?_)
   ·simp only [spec_l27Free.l0, hw, e1, e2]
    rw [wrap_id (by omega) (by omega), if_pos (by omega)]
    simp only [hsl, if_true]
   ·cases hb : leavesP parts offs ((j / 6 : Nat) : Int) ((j % 6 : Nat) : Int) with
    | true =>
     rw [hst, hb, if_pos rfl, ← hI] at h2
     exact h2
    | false =>
     rw [hst, hb, if_neg (by simp), List.append_nil, ← hI] at h2
     exact h2
 rw [← hr]
 exact hk
def exitW (parts : List (List Cb)) : List Int × List Cb × Int :=
 if asmP parts = true then (match searchW parts (exB parts true) 1201 [(zerosC parts.length, [])] 0 with
  | none => ([], [], 3)
  | some (T, i) => if i < 0 then ([], [], 4) else ((pwAt T i.toNat).2, (pwAt T i.toNat).1, 0)) else ([], [], 1)
theorem near_at (o : List Cb) (h : o.any (fun c => !inCb c (-3) 3) = false) : ∀ j : Nat, j < o.length → inCb (oAt o j) (-12) 12 = true := fun j hj => by
 have e : oAt o j = o[j] := by simp [oAt, List.getD_eq_getElem?_getD, hj]
 rw [e]
 rw [List.any_eq_false] at h
 have h2 := h o[j] (List.getElem_mem hj)
 rw [Bool.not_eq_true', Bool.not_eq_false] at h2
 exact inCb_mono h2 (by omega) (by omega)
theorem sfree_at {parts : List (List Cb)} (hz : SzOk parts) (h : asmP parts = true) : ∀ o : List Cb, o.length = parts.length → o.any (fun c => !inCb c (-3) 3) = false → ∃ K, spec_l27Free.f K parts o = some (freeP parts o) := fun o ho hn =>
 (free_ev parts o ho (by have := (asm_of h).1; omega) hz.each (fun p hp => ((asm_of h).2 p hp).2) (near_at o hn)).rounds
theorem Sp.nil2 {w0 w : World} {rs : List Res} (h : Sp w0 rs w) : Sp w0 [Res.row kI 2 w0.heap.size (.slice none 0 0) [], Res.row kC 69 w0.heap.size (.slice none 0 0) []] w := by
 have h0 := Sp.start' h.below
 have h1 := h0.push (r := Res.row kC 69 w0.heap.size (.slice none 0 0) []) (Below.refl _ _) (Kd.R_nil kC 69 _ _ _)
 exact h1.push (r := Res.row kI 2 w0.heap.size (.slice none 0 0) []) (Below.refl _ _) (Kd.R_nil kI 2 _ _ _)
theorem Sp.made2 {w0 w w' : World} {rs : List Res} {α β : Type} {d : Kd α} {d' : Kd β} {e e' : Nat} {v v' : Value} {xs : List α} {ys : List β} (h : Sp w0 rs w) (h2 : Sp w [Res.row d e w.heap.size v xs, Res.row d' e' w.heap.size v' ys] w') : Sp w0 (Res.row d e w0.heap.size v xs :: Res.row d' e' w0.heap.size v' ys :: rs) w' := by
 have h3 := Sp.app h h2
 have h4 := Sp.weak h3 (i := 0) (r' := Res.row d e w0.heap.size v xs) rfl (fun fp hp => Kd.R_lower hp h.below.size)
 exact Sp.weak h4 (i := 1) (r' := Res.row d' e' w0.heap.size v' ys) rfl (fun fp hp => Kd.R_lower hp h.below.size)
def exiF.T8 : Bool × List (List Nat × List Nat) := (true, [([], []), ([0], [0]), ([1], [1]), ([2], [2]), ([], []), ([3, 4], [3, 4]), ([5], [5]), ([], []), ([7], [7]), ([8], [8]), ([9], [9]), ([], []), ([10, 11], [10, 11]), ([12], [12]), ([6, 0, 1, 2, 3, 4, 5, 6], [6]), ([13, 14, 0, 1, 2, 3, 4, 5, 6, 7, 8, 9, 10, 11, 12, 13, 14], [13]), ([15, 0, 1, 2, 3, 4, 5, 6, 7, 8, 9, 10, 11, 12, 13, 14, 15], [])])
def exiF.B8 : List Nat := [0, 1, 3, 7, 0, 31, 63, 0, 128, 384, 896, 0, 3968, 8064, 127, 32767, 65535]
theorem exiF.tab8 : rtab .any (opsOf Try.f59 8) = exiF.T8 := by kernel_rfl
theorem exiF.bits8 : waitsOk exiF.T8.2 exiF.B8 = true := by kernel_rfl
set_option maxHeartbeats 8000000 in
set_option maxRecDepth 100000 in
theorem sExit_calls (Ap : Option Addr) (cp : Nat) (parts : List (List Cb)) (w : World) (hC : kP.C w Ap parts.length parts) (hcp : parts.length ≤ cp) (hz : SzOk parts) :
  Calls Try.prog 59 #[.agg #[.slice Ap parts.length cp]] w fun e w' => ∃ v1_ v2_ : Value, e = .returned (.tuple #[v1_, v2_, .int .i64 (exitW parts).2.2]) ∧ Sp w [Res.row kI 2 w.heap.size v1_ (exitW parts).1, Res.row kC 69 w.heap.size v2_ (exitW parts).2.1] w' := by
 have hu32 := Try.underlying32
 have hu83 := Try.underlying83
 have HS := A0_ (Sp.start w)
 have hia := fun w' (hb : Below w.heap.size w w') => sIsAsm_calls Ap cp parts w' (Kd.C_below hC hb) hcp hz
 cases has : asmP parts with
 | false =>
  rw [has] at hia
  have HIA := A0_ hia
  have HST := A0_ (show exitW parts = ([], [], 1) by unfold exitW; rw [has, if_neg (by simp)])
  clear has hia hC hz
  rw [HST.out]
  go_enter Try.func59, Try.ntmps59
  go_wp2_with (first
   | ((with_reducible refine gate_dst (N := 1) rfl ?_); refine be_ (N := 1) (cs := #[.slice Ap parts.length cp]) (t := 32) ?_; intro ga hgb_ wb_ hcb_ hbb_; replace HS := A0_ (Sp.boxed HS.out hgb_ hcb_ hbb_); clear hgb_ hcb_ hbb_; have ha0 := (cl_ HS 0 0 rfl).trans rfl)
   | (go_at_call 54; refine (HIA.out _ HS.out.below).mono ?_; rintro e wi_ ⟨rfl, hb_⟩; replace HS := A0_ (Sp.far HS.out hb_); clear hb_ ha0))
  go_ret3
  exact ⟨_, _, rfl, Sp.nil2 HS.out⟩
 | true =>
  rw [has] at hia
  have HIA := A0_ hia
  have hlen := (asm_of has).1
  have HST := A0_ (show exitW parts = (match searchW parts (exB parts true) 1201 [(zerosC parts.length, [])] 0 with
   | none => ([], [], 3)
   | some (T, i) => if i < 0 then ([], [], 4) else ((pwAt T i.toNat).2, (pwAt T i.toNat).1, 0)) by unfold exitW; rw [has, if_pos rfl])
  have HSE := A0_ (fun rs w2 (hs : Sp w rs w2) => search_calls w Ap cp parts (fr_at hC hz has) hcp (by omega) (spec_ok parts.length (by omega)) (smoves_at hz has) true (fun _ => sfree_at hz has) rs w2 hs)
  have HRX := A0_ (show RelX (exitX parts) (searchW parts (exB parts true) 1201 [(zerosC parts.length, [])] 0) from search_rel parts (exB parts true) 1201 _ _ 0 (rel_start parts.length))
  clear has hia hC hz hlen
  obtain ⟨RV, hRV⟩ : ∃ RV, RV = exitW parts := ⟨_, rfl⟩
  have HRV := A0_ (hRV.trans HST.out)
  rw [← hRV]
  clear hRV HST
  generalize searchW parts (exB parts true) 1201 [(zerosC parts.length, [])] 0 = R at HSE HRV HRX
  cases R with
  | none =>
   have HRW := A0_ (show RV = ([], [], 3) from HRV.out)
   clear HRV HRX
   go_enter Try.func59, Try.ntmps59
   go_wp2_with (first
    | ((with_reducible refine gate_dst (N := 1) rfl ?_); refine be_ (N := 1) (cs := #[.slice Ap parts.length cp]) (t := 32) ?_; intro ga hgb_ wb_ hcb_ hbb_; replace HS := A0_ (Sp.boxed HS.out hgb_ hcb_ hbb_); clear hgb_ hcb_ hbb_; have ha0 := (cl_ HS 0 0 rfl).trans rfl)
    | (go_at_call 54; refine (HIA.out _ HS.out.below).mono ?_; rintro e wi_ ⟨rfl, hb_⟩; replace HS := A0_ (Sp.far HS.out hb_); clear hb_ ha0; have ha0 := (cl_ HS 0 0 rfl).trans rfl)
    | (go_at_call 55; refine (HSE.out _ _ HS.out).mono ?_; rintro e ws_ ⟨gs, i_, rfl, _, Ao, co, Aw, cw, PS, WS, hok_, hs_⟩; replace HS := A0_ (hs_); clear hs_ hok_ ha0; have hs0 := (cl_ HS 0 0 rfl).trans rfl; have hs2 := (cl_ HS 0 2 rfl).trans rfl))
   go_ret3
   rw [HRW.out]
   exact ⟨_, _, rfl, Sp.nil2 HS.out⟩
  | some r =>
   obtain ⟨T, i⟩ := r
   by_cases hi : i < 0
   ·have HRW := A0_ (show RV = ([], [], 4) by rw [HRV.out]; exact if_pos hi)
    have i0 : decide (i < 0) = true := decide_eq_true hi
    have i1 := eq_true hi
    clear HRV HRX hi
    go_enter Try.func59, Try.ntmps59
    go_wp2_with (first
     | ((with_reducible refine gate_dst (N := 1) rfl ?_); refine be_ (N := 1) (cs := #[.slice Ap parts.length cp]) (t := 32) ?_; intro ga hgb_ wb_ hcb_ hbb_; replace HS := A0_ (Sp.boxed HS.out hgb_ hcb_ hbb_); clear hgb_ hcb_ hbb_; have ha0 := (cl_ HS 0 0 rfl).trans rfl)
     | (go_at_call 54; refine (HIA.out _ HS.out.below).mono ?_; rintro e wi_ ⟨rfl, hb_⟩; replace HS := A0_ (Sp.far HS.out hb_); clear hb_ ha0; have ha0 := (cl_ HS 0 0 rfl).trans rfl)
     | (go_at_call 55; refine (HSE.out _ _ HS.out).mono ?_; rintro e ws_ ⟨gs, i_, rfl, hj_, Ao, co, Aw, cw, PS, WS, hok_, hm_, hs_⟩; obtain rfl := hj_ T i rfl; replace HS := A0_ (hs_); clear hs_ hok_ hm_ ha0 hj_; have hs0 := (cl_ HS 0 0 rfl).trans rfl; have hs2 := (cl_ HS 0 2 rfl).trans rfl))
    go_ret3
    rw [HRW.out]
    exact ⟨_, _, rfl, Sp.nil2 HS.out⟩
   ·have HRW := A0_ (show RV = ((pwAt T i.toNat).2, (pwAt T i.toNat).1, 0) by rw [HRV.out]; exact if_neg hi)
    obtain ⟨k, hk, hkl⟩ : ∃ k : Nat, i = (k : Int) ∧ k < T.length := by
     have h := HRX.out
     cases hx : exitX parts with
     | none => rw [hx] at h; exact h.elim
     | some r2 =>
      rw [hx] at h
      obtain ⟨S2, i2⟩ := r2
      obtain ⟨h1, h2, h3⟩ := h
      rcases h3 with h3 | ⟨k, h3, h4⟩
      ·exact absurd (show i < 0 by omega) hi
      ·exact ⟨k, by rw [← h2, h3], by rw [← h1.len]; exact h4⟩
    subst hk
    rw [Int.toNat_natCast] at HRW
    have HKT := A0_ hkl
    have i0 : decide ((k : Int) < 0) = false := decide_eq_false hi
    have i1 := eq_false hi
    clear HRV HRX hi hkl
    go_enter Try.func59, Try.ntmps59
    go_wp2_with (first
     | ((with_reducible refine gate_dst (N := 1) rfl ?_); refine be_ (N := 1) (cs := #[.slice Ap parts.length cp]) (t := 32) ?_; intro ga hgb_ wb_ hcb_ hbb_; replace HS := A0_ (Sp.boxed HS.out hgb_ hcb_ hbb_); clear hgb_ hcb_ hbb_; have ha0 := (cl_ HS 0 0 rfl).trans rfl)
     | (go_at_call 54; refine (HIA.out _ HS.out.below).mono ?_; rintro e wi_ ⟨rfl, hb_⟩; replace HS := A0_ (Sp.far HS.out hb_); clear hb_ ha0; have ha0 := (cl_ HS 0 0 rfl).trans rfl)
     | (go_at_call 55; refine (HSE.out _ _ HS.out).mono ?_; rintro e ws_ ⟨gs, i_, rfl, hj_, Ao, co, Aw, cw, PS, WS, hok_, hm_, hs_⟩; obtain rfl := hj_ T k rfl; have HOK := A0_ hok_; have HM := A0_ hm_; replace HS := A0_ (hs_); clear hs_ hok_ hm_ ha0 hj_; have hs0 := (cl_ HS 0 0 rfl).trans rfl; have hs2 := (cl_ HS 0 2 rfl).trans rfl))
    have hlt : ndW PS WS = T := HM.out
    have hpl : k < PS.length := by have := HKT.out; rw [← hlt, ndW_len HOK.out.len] at this; exact this
    have hwl : k < WS.length := by rw [← HOK.out.len]; exact hpl
    obtain ⟨p0, hp0⟩ : ∃ p0, PS[k]? = some p0 := ⟨PS[k], List.getElem?_eq_getElem hpl⟩
    obtain ⟨q0, hq0⟩ : ∃ q0, WS[k]? = some q0 := ⟨WS[k], List.getElem?_eq_getElem hwl⟩
    have hpw : pwAt T k = (p0.2, q0.2) := by
     have hz : ((PS.map Prod.snd).zip (WS.map Prod.snd))[k]? = some (p0.2, q0.2) := List.getElem?_zip_eq_some.2 ⟨by rw [List.getElem?_map, hp0]; rfl, by rw [List.getElem?_map, hq0]; rfl⟩
     unfold pwAt
     rw [← hlt, List.getD_eq_getElem?_getD, hz]
     rfl
    have hpm : p0 ∈ PS := List.mem_of_getElem? hp0
    have hqm : q0 ∈ WS := List.mem_of_getElem? hq0
    obtain ⟨g1, g2, _⟩ := Sp.poolGC HS.out (i := 2) rfl hpm
    obtain ⟨f1, f2, _⟩ := Sp.poolGC HS.out (i := 4) rfl hqm
    obtain ⟨⟨A0, n0, c0⟩, o⟩ := p0
    obtain ⟨⟨A1, n1, c1⟩, wy⟩ := q0
    dsimp only at g1 g2 f1 f2 hpw
    subst g1
    subst f1
    have HPW := A0_ hpw
    have HPM := A0_ hpm
    have HQM := A0_ hqm
    have HG0 := A0_ (show slV ((PS.map Prod.fst).getD k (none, 0, 0)) = .slice A0 o.length c0 by rw [List.getD_eq_getElem?_getD, List.getElem?_map, hp0]; rfl)
    have HG1 := A0_ (show slV ((WS.map Prod.fst).getD k (none, 0, 0)) = .slice A1 wy.length c1 by rw [List.getD_eq_getElem?_getD, List.getElem?_map, hq0]; rfl)
    have HCK := A0_ hpl
    have HCW := A0_ hwl
    obtain ⟨adp, e, _⟩ := at_Sl (Sp.reads HS.out (i := 1) rfl).2.2 k (by rw [List.length_map]; exact hpl)
    subst e
    obtain ⟨adw, e, _⟩ := at_Sl (Sp.reads HS.out (i := 3) rfl).2.2 k (by rw [List.length_map]; exact hwl)
    subst e
    have q0_ : (0 ≤ (k : Int)) = True := eq_true (by omega)
    have q1_ : ((k : Int) < (PS.length : Int)) = True := eq_true (by omega)
    have q2_ : ((k : Int) < (WS.length : Int)) = True := eq_true (by omega)
    clear hlt hpl hwl hp0 hq0 hpw hpm hqm g2 f2
    go_wp2
    have HS_ := A0_ (show Sp w ([srBlk gs (some adp) PS.length co (some adw) WS.length cw false, posR w.heap.size (some adp) co PS, Res.poolG kC 69 w.heap.size PS, wayR w.heap.size (some adw) cw WS, Res.poolG kI 2 w.heap.size WS, Res.blk ga #[.slice Ap parts.length cp] 32] ++ ([] : List Res)) ws_.drew from Sp.drew HS.out)
    clear HS hs0 hs2
    have HS := HS_
    clear HS_
    refine start_ (n := 17) (S := fun w' => w'.cell? ⟨gs, 0, none⟩ = some (.slice (some adp) PS.length co) ∧ w'.cell? ⟨gs, 1, none⟩ = some (.slice (some adw) WS.length cw) ∧ w'.cell? (adp.add k) = some (.slice A0 o.length c0) ∧ w'.cell? (adw.add k) = some (.slice A1 wy.length c1)) (ds := []) #[false, false, false, false, false, false, false, false, false, false, false, false, false, false, false, false, false] (by kernel_rfl) rfl rfl (⟨(cl_ HS 0 0 rfl).trans rfl, (cl_ HS 0 1 rfl).trans rfl, (HG0.out ▸ Sp.slCell HS.out (i := 1) rfl k HCK.out), (HG1.out ▸ Sp.slCell HS.out (i := 3) rfl k HCW.out)⟩) (fun hHeld => ?_)
    refine with_tabW exiF.tab8 exiF.bits8 (fun HT_ HW_ => ?_)
    generalize ws_.drew = wD at HS hHeld ⊢
    refine on_ 0 (some 21) ?_
    refine on_ 1 (some 22) ?_
    refine on_ 2 (some 23) ?_
    refine tk_ 3 (some 24) ?_
    refine on_ 4 (some 25) ?_
    refine on_ 5 (some 26) ?_
    refine tk_ 6 (some 27) ?_
    refine on_ 7 (some 28) ?_
    refine on_ 8 (some 29) ?_
    refine on_ 9 (some 30) ?_
    refine tk_ 10 (some 31) ?_
    refine on_ 11 (some 32) ?_
    refine on_ 12 (some 33) ?_
    refine tk_ 13 (some 34) ?_
    refine on_ 14 (some 2) ?_
    refine on_ 15 (some 3) ?_
    refine on_ 16 (some 4) ?_
    refine dn_ ?_
    try go_wp2
    go_ret3
    rw [HRW.out, HPW.out]
    have h1 := Sp.weak HS.out (i := 4) (r' := Res.row kI 2 w.heap.size (.slice A1 wy.length c1) wy) rfl (fun fp hp => hp _ HQM.out)
    have h2 := Sp.weak h1 (i := 2) (r' := Res.row kC 69 w.heap.size (.slice A0 o.length c0) o) rfl (fun fp hp => hp _ HPM.out)
    exact ⟨_, _, rfl, Sp.swap (Sp.out (Sp.out (Sp.out (Sp.out h2 5) 3) 1) 0)⟩
theorem pos_visit {n : Nat} {o : List Cb} {wy : List Int} {T T' : List (List Cb × List Int)} {m : Int} (hl : ∀ p ∈ T, p.1.length = n ∧ p.1.any (fun c => !inCb c (-3) 3) = false) (ho : o.length = n) (h : visitW o wy T m = some T') : ∀ p ∈ T', p.1.length = n ∧ p.1.any (fun c => !inCb c (-3) 3) = false := by
 unfold visitW at h
 split at h
 ·injection h with h; subst h; exact hl
 ·rename_i c
  split at h
  ·injection h with h; subst h; exact hl
  ·split at h
   ·cases h
   ·injection h with h
    subst h
    intro p hp
    rcases List.mem_append.1 hp with hp | hp
    ·exact hl p hp
    ·obtain rfl := List.mem_singleton.1 hp
     exact ⟨by rw [movedP_len]; exact ho, Bool.eq_false_iff.mpr c⟩
theorem pos_fold {n : Nat} {o : List Cb} {wy : List Int} (ho : o.length = n) : ∀ (ms : List Int) {T T' : List (List Cb × List Int)}, (∀ p ∈ T, p.1.length = n ∧ p.1.any (fun c => !inCb c (-3) 3) = false) → ms.foldlM (visitW o wy) T = some T' → ∀ p ∈ T', p.1.length = n ∧ p.1.any (fun c => !inCb c (-3) 3) = false
 | [], T, T', hl, h => by
  have : T = T' := Option.some.inj h
  subst this
  exact hl
 | m :: ms, T, T', hl, h => by
  rw [List.foldlM_cons] at h
  obtain ⟨U, h1, h2⟩ := Option.bind_eq_some_iff.1 h
  exact pos_fold ho ms (pos_visit hl ho h1) h2
theorem search_found (parts : List (List Cb)) (ex : List Cb → Bool) : ∀ (f : Nat) (T : List (List Cb × List Int)) (k : Nat) {T' : List (List Cb × List Int)} {i : Int}, (∀ p ∈ T, p.1.length = parts.length ∧ p.1.any (fun c => !inCb c (-3) 3) = false) → searchW parts ex f T k = some (T', i) → (∀ p ∈ T', p.1.length = parts.length ∧ p.1.any (fun c => !inCb c (-3) 3) = false) ∧ (i = -1 ∨ ∃ j : Nat, i = (j : Int) ∧ j < T'.length ∧ ex (pwAt T' j).1 = true)
 | 0, T, k, T', i, hl, h => by
  injection h with h; injection h with h1 h2
  subst h1; subst h2
  exact ⟨hl, .inl rfl⟩
 | f + 1, T, k, T', i, hl, h => by
  unfold searchW at h
  by_cases c : k < T.length
  ·rw [if_pos c] at h
   by_cases e : ex (T.getD k default).1 = true
   ·rw [if_pos e] at h
    injection h with h; injection h with h1 h2
    subst h1; subst h2
    exact ⟨hl, .inr ⟨k, rfl, c, e⟩⟩
   ·rw [if_neg e] at h
    obtain ⟨U, h1, h2⟩ := Option.bind_eq_some_iff.1 h
    have hm : T.getD k default ∈ T := by
     rw [List.getD_eq_getElem?_getD, List.getElem?_eq_getElem c]
     exact List.getElem_mem c
    exact search_found parts ex f U (k + 1) (pos_fold (hl _ hm).1 _ hl h1) h2
  ·rw [if_neg c] at h
   injection h with h; injection h with h1 h2
   subst h1; subst h2
   exact ⟨hl, .inl rfl⟩
theorem exitW_found {parts : List (List Cb)} (h : (exitW parts).2.2 = 0) : asmP parts = true ∧ (exitW parts).2.1.length = parts.length ∧ (exitW parts).2.1.any (fun c => !inCb c (-3) 3) = false ∧ 0 < (freeP parts (exitW parts).2.1).length := by
 unfold exitW at h ⊢
 by_cases c : asmP parts = true
 ·rw [if_pos c] at h ⊢
  cases hs : searchW parts (exB parts true) 1201 [(zerosC parts.length, [])] 0 with
  | none => rw [hs] at h; simp at h
  | some r =>
   obtain ⟨T, i⟩ := r
   rw [hs] at h
   have hz : ∀ p ∈ [(zerosC parts.length, ([] : List Int))], p.1.length = parts.length ∧ p.1.any (fun c => !inCb c (-3) 3) = false := fun p hp => by
    obtain rfl := List.mem_singleton.1 hp
    refine ⟨List.length_replicate, ?_⟩
    rw [Bool.eq_false_iff]
    intro hc
    obtain ⟨c, hc1, hc2⟩ := List.any_eq_true.1 hc
    rw [List.eq_of_mem_replicate hc1] at hc2
    exact absurd hc2 (by decide)
   obtain ⟨h1, h2⟩ := search_found parts (exB parts true) 1201 _ 0 hz hs
   dsimp only at h ⊢
   by_cases d : i < 0
   ·rw [if_pos d] at h; simp at h
   ·rw [if_neg d]
    rcases h2 with h2 | ⟨j, h2, h3, h4⟩
    ·omega
    ·subst h2
     rw [Int.toNat_natCast]
     have hm : pwAt T j ∈ T := by
      unfold pwAt
      rw [List.getD_eq_getElem?_getD, List.getElem?_eq_getElem h3]
      exact List.getElem_mem h3
     refine ⟨c, (h1 _ hm).1, (h1 _ hm).2, ?_⟩
     unfold exB at h4
     rw [Bool.true_and, decide_eq_true_eq] at h4
     exact h4
 ·rw [if_neg c] at h; simp at h
theorem exit_same (parts : List (List Cb)) : exitR parts = (if (exitW parts).2.2 = 0 then ((exitW parts).1, (freeP parts (exitW parts).2.1).getD 0 0, 0) else ([], 0, (exitW parts).2.2)) := by
 unfold exitR exitW
 by_cases c : asmP parts = true
 ·rw [if_pos c, if_pos c]
  have h := search_rel parts (exB parts true) 1201 _ _ 0 (rel_start parts.length)
  unfold exitX
  cases hx : searchX parts (exB parts true) 1201 [(zerosC parts.length, -1, 0)] 0 with
  | none =>
   cases hw : searchW parts (exB parts true) 1201 [(zerosC parts.length, [])] 0 with
   | none => rfl
   | some r => rw [hx, hw] at h; exact h.elim
  | some s =>
   cases hw : searchW parts (exB parts true) 1201 [(zerosC parts.length, [])] 0 with
   | none => rw [hx, hw] at h; exact h.elim
   | some r =>
    rw [hx, hw] at h
    obtain ⟨S, i⟩ := s
    obtain ⟨T, j⟩ := r
    obtain ⟨h1, h2, h3⟩ := h
    subst h2
    dsimp only
    by_cases d : i < 0
    ·simp only [if_pos d]; rfl
    ·simp only [if_neg d]
     rcases h3 with h3 | ⟨k, h3, h4⟩
     ·omega
     ·subst h3
      rw [Int.toNat_natCast, h1.way k h4, h1.at k]
      rfl
 ·rw [if_neg c, if_neg c]; rfl
theorem wayF_len (S : List Nd) : ∀ (f j : Nat), (wayF S f j).length ≤ f
 | 0, _ => Nat.le_refl _
 | f + 1, j => by
  unfold wayF
  by_cases c : (ndAt S j).2.1 < 0
  ·rw [if_pos c]; exact Nat.zero_le _
  ·rw [if_neg c, List.length_append, List.length_singleton]
   have := wayF_len S f (ndAt S j).2.1.toNat
   omega
theorem visit_top {o : List Cb} {k : Int} {S S' : List Nd} {m : Int} (h : visitP o k S m = some S') (hl : S.length ≤ 1200) : S'.length ≤ 1200 := by
 unfold visitP at h
 split at h
 ·injection h with h; subst h; exact hl
 ·split at h
  ·injection h with h; subst h; exact hl
  ·split at h
   ·cases h
   ·injection h with h; subst h; rw [List.length_append, List.length_singleton]; omega
theorem spread_top {o : List Cb} {k : Int} : ∀ (ms : List Int) {S S' : List Nd}, ms.foldlM (visitP o k) S = some S' → S.length ≤ 1200 → S'.length ≤ 1200
 | [], S, S', h, hl => by
  have : S = S' := Option.some.inj h
  subst this
  exact hl
 | m :: ms, S, S', h, hl => by
  rw [List.foldlM_cons] at h
  obtain ⟨T, h1, h2⟩ := Option.bind_eq_some_iff.1 h
  exact spread_top ms h2 (visit_top h1 hl)
theorem searchX_top (parts : List (List Cb)) (ex : List Cb → Bool) : ∀ (f : Nat) (S : List Nd) (k : Nat) {S' : List Nd} {i : Int}, S.length ≤ 1200 → searchX parts ex f S k = some (S', i) → S'.length ≤ 1200 ∧ (i < 0 ∨ i.toNat < S'.length)
 | 0, S, k, S', i, hl, h => by
  injection h with h; injection h with h1 h2
  subst h1; subst h2
  exact ⟨hl, .inl (by omega)⟩
 | f + 1, S, k, S', i, hl, h => by
  unfold searchX at h
  by_cases c : k < S.length
  ·rw [if_pos c] at h
   by_cases e : ex (ndAt S k).1 = true
   ·rw [if_pos e] at h
    injection h with h; injection h with h1 h2
    subst h1; subst h2
    exact ⟨hl, .inr (by omega)⟩
   ·rw [if_neg e] at h
    obtain ⟨U, h1, h2⟩ := Option.bind_eq_some_iff.1 h
    exact searchX_top parts ex f U (k + 1) (spread_top _ h1 hl) h2
  ·rw [if_neg c] at h
   injection h with h; injection h with h1 h2
   subst h1; subst h2
   exact ⟨hl, .inl (by omega)⟩
theorem exitR_len (parts : List (List Cb)) : (exitR parts).1.length ≤ 1200 := by
 unfold exitR
 by_cases c : asmP parts = true
 ·rw [if_pos c]
  cases hx : exitX parts with
  | none => simp
  | some s =>
   obtain ⟨S, i⟩ := s
   dsimp only
   obtain ⟨h1, h2⟩ := searchX_top parts (exB parts true) 1201 _ 0 (by simp) hx
   by_cases d : i < 0
   ·rw [if_pos d]; simp
   ·rw [if_neg d]
    have h3 := wayF_len S (i.toNat + 1) i.toNat
    show (wayN S i.toNat).length ≤ 1200
    unfold wayN
    omega
 ·rw [if_neg c]; simp
theorem exitW_len (parts : List (List Cb)) : (exitW parts).1.length ≤ 1200 := by
 have h := exitR_len parts
 rw [exit_same] at h
 by_cases c : (exitW parts).2.2 = 0
 ·rw [if_pos c] at h; exact h
 ·have : (exitW parts).1 = [] := by
   unfold exitW at c ⊢
   by_cases d : asmP parts = true
   ·rw [if_pos d] at c ⊢
    cases hs : searchW parts (exB parts true) 1201 [(zerosC parts.length, [])] 0 with
    | none => rfl
    | some r =>
     obtain ⟨T, i⟩ := r
     rw [hs] at c
     dsimp only at c ⊢
     by_cases e : i < 0
     ·rw [if_pos e]
     ·rw [if_neg e] at c; exact absurd rfl c
   ·rw [if_neg d]
  rw [this]
  simp
def WayOk (parts : List (List Cb)) (p : List Cb × List Int) : Prop := followF parts p.2 = some p.1 ∧ ∀ m ∈ p.2, isMv parts.length m = true
theorem follow_snoc (parts : List (List Cb)) (wy : List Int) (m : Int) : followF parts (wy ++ [m]) = (followF parts wy).bind fun o => stepM parts o m := by
 unfold followF
 rw [List.foldl_append]
 rfl
theorem way_visit {parts : List (List Cb)} {o : List Cb} {wy : List Int} {T T' : List (List Cb × List Int)} {m : Int} (hl : ∀ p ∈ T, WayOk parts p) (ho : WayOk parts (o, wy)) (hm : m ∈ movesP parts o) (h : visitW o wy T m = some T') : ∀ p ∈ T', WayOk parts p := by
 unfold visitW at h
 split at h
 ·injection h with h; subst h; exact hl
 ·split at h
  ·injection h with h; subst h; exact hl
  ·split at h
   ·cases h
   ·injection h with h
    subst h
    intro p hp
    rcases List.mem_append.1 hp with hp | hp
    ·exact hl p hp
    ·obtain rfl := List.mem_singleton.1 hp
     have hmm := moves_mem hm
     refine ⟨?_, fun q hq => ?_⟩
     ·show followF parts (wy ++ [m]) = some (movedP o m)
      rw [follow_snoc, show followF parts wy = some o from ho.1, Option.bind_some]
      unfold stepM
      rw [hmm.1, hmm.2]
      rfl
     ·have hq2 : q ∈ wy ++ [m] := hq
      rcases List.mem_append.1 hq2 with hq3 | hq3
      ·exact ho.2 q hq3
      ·obtain rfl := List.mem_singleton.1 hq3
       exact hmm.1
theorem way_fold {parts : List (List Cb)} {o : List Cb} {wy : List Int} (ho : WayOk parts (o, wy)) : ∀ (ms : List Int) {T T' : List (List Cb × List Int)}, (∀ m ∈ ms, m ∈ movesP parts o) → (∀ p ∈ T, WayOk parts p) → ms.foldlM (visitW o wy) T = some T' → ∀ p ∈ T', WayOk parts p
 | [], T, T', _, hl, h => by
  have : T = T' := Option.some.inj h
  subst this
  exact hl
 | m :: ms, T, T', hm, hl, h => by
  rw [List.foldlM_cons] at h
  obtain ⟨U, h1, h2⟩ := Option.bind_eq_some_iff.1 h
  exact way_fold ho ms (fun q hq => hm q (List.mem_cons_of_mem _ hq)) (way_visit hl ho (hm m List.mem_cons_self) h1) h2
theorem search_way (parts : List (List Cb)) (ex : List Cb → Bool) : ∀ (f : Nat) (T : List (List Cb × List Int)) (k : Nat) {T' : List (List Cb × List Int)} {i : Int}, (∀ p ∈ T, WayOk parts p) → searchW parts ex f T k = some (T', i) → ∀ p ∈ T', WayOk parts p
 | 0, T, k, T', i, hl, h => by
  injection h with h; injection h with h1 h2
  subst h1
  exact hl
 | f + 1, T, k, T', i, hl, h => by
  unfold searchW at h
  by_cases c : k < T.length
  ·rw [if_pos c] at h
   by_cases e : ex (T.getD k default).1 = true
   ·rw [if_pos e] at h
    injection h with h; injection h with h1 h2
    subst h1
    exact hl
   ·rw [if_neg e] at h
    obtain ⟨U, h1, h2⟩ := Option.bind_eq_some_iff.1 h
    have hm : T.getD k default ∈ T := by
     rw [List.getD_eq_getElem?_getD, List.getElem?_eq_getElem c]
     exact List.getElem_mem c
    exact search_way parts ex f U (k + 1) (way_fold (hl _ hm) _ (fun q hq => hq) hl h1) h2
  ·rw [if_neg c] at h
   injection h with h; injection h with h1 h2
   subst h1
   exact hl
theorem exitW_way {parts : List (List Cb)} (h : (exitW parts).2.2 = 0) : followF parts (exitW parts).1 = some (exitW parts).2.1 ∧ ∀ m ∈ (exitW parts).1, isMv parts.length m = true := by
 unfold exitW at h ⊢
 by_cases c : asmP parts = true
 ·rw [if_pos c] at h ⊢
  cases hs : searchW parts (exB parts true) 1201 [(zerosC parts.length, [])] 0 with
  | none => rw [hs] at h; simp at h
  | some r =>
   obtain ⟨T, i⟩ := r
   rw [hs] at h
   have hz : ∀ p ∈ [(zerosC parts.length, ([] : List Int))], WayOk parts p := fun p hp => by
    obtain rfl := List.mem_singleton.1 hp
    exact ⟨rfl, fun m hm => by cases hm⟩
   have h1 := search_way parts (exB parts true) 1201 _ 0 hz hs
   have hz2 : ∀ p ∈ [(zerosC parts.length, ([] : List Int))], p.1.length = parts.length ∧ p.1.any (fun c => !inCb c (-3) 3) = false := fun p hp => by
    obtain rfl := List.mem_singleton.1 hp
    refine ⟨List.length_replicate, ?_⟩
    rw [Bool.eq_false_iff]
    intro hc
    obtain ⟨c, hc1, hc2⟩ := List.any_eq_true.1 hc
    rw [List.eq_of_mem_replicate hc1] at hc2
    exact absurd hc2 (by decide)
   obtain ⟨_, h2⟩ := search_found parts (exB parts true) 1201 _ 0 hz2 hs
   dsimp only at h ⊢
   by_cases d : i < 0
   ·rw [if_pos d] at h; simp at h
   ·rw [if_neg d]
    rcases h2 with h2 | ⟨j, h2, h3, h4⟩
    ·omega
    ·subst h2
     rw [Int.toNat_natCast]
     have hm : pwAt T j ∈ T := by
      unfold pwAt
      rw [List.getD_eq_getElem?_getD, List.getElem?_eq_getElem h3]
      exact List.getElem_mem h3
     exact h1 _ hm
 ·rw [if_neg c] at h
  simp at h
theorem isMv_lt63 {n : Nat} (h8 : n ≤ 8) {m : Int} (h : isMv n m = true) : m ≤ 9223372036854775807 := by
 unfold isMv at h
 rw [Bool.and_eq_true, Bool.and_eq_true, decide_eq_true_eq, decide_eq_true_eq] at h
 have h2 := h.2.1
 rw [pow_int] at h2
 have := pow_le8 n h8
 generalize 2 ^ n = N2 at h2 this
 omega
abbrev Ig' := S98
def codeG (cd : Int) : Int := if cd = 1 then 5 else cd
structure ExOk (pp : List (List Cb)) (wy : List Int) (o : List Cb) (fr : Int) : Prop where
 asm : asmP pp = true
 len : o.length = pp.length
 near : o.any (fun c => !inCb c (-3) 3) = false
 fol : followF pp wy = some o
 mv : ∀ m ∈ wy, m ≤ 9223372036854775807
 wl : wy.length ≤ 1200
 fne : 0 < (freeP pp o).length
 fre : fr = (freeP pp o).getD 0 0
 rng : 0 ≤ fr ∧ fr < 6 * (pp.length : Int)
theorem exOk {pp : List (List Cb)} (h : (exitW pp).2.2 = 0) : ExOk pp (exitW pp).1 (exitW pp).2.1 ((freeP pp (exitW pp).2.1).getD 0 0) := by
 obtain ⟨h1, h2, h3, h4⟩ := exitW_found h
 obtain ⟨h5, h6⟩ := exitW_way h
 have h8 := (asm_of h1).1
 refine ⟨h1, h2, h3, h5, fun m hm => isMv_lt63 (by omega) (h6 m hm), exitW_len pp, h4, rfl, ?_⟩
 have hm : (freeP pp (exitW pp).2.1).getD 0 0 ∈ freeP pp (exitW pp).2.1 := by
  rw [List.getD_eq_getElem?_getD, List.getElem?_eq_getElem h4]
  exact List.getElem_mem h4
 obtain ⟨k, hk, he, _⟩ := freeK_mem hm
 rw [he]
 omega
def greedyG : Nat → List (List Cb) → List Ig' → List Ig' × Int
 | 0, pp, out => (out, 0)
 | f + 1, pp, out => if 1 < pp.length then (if (exitW pp).2.2 = 0 then greedyG f (restP pp (exitW pp).2.1 (((freeP pp (exitW pp).2.1).getD 0 0) / 6).toNat) (out ++ [⟨(exitW pp).1, (freeP pp (exitW pp).2.1).getD 0 0⟩]) else ([], codeG (exitW pp).2.2)) else (out, 0)
def greedyR (parts : List (List Cb)) : List Ig' × Int := if asmP parts = true then greedyG parts.length parts [] else ([], 1)
theorem exitW_asm {pp : List (List Cb)} (h : ¬ asmP pp = true) : exitW pp = ([], [], 1) := by unfold exitW; rw [if_neg h]
theorem exitW_code {pp : List (List Cb)} (h : asmP pp = true) : ¬ (exitW pp).2.2 = 1 := by
 unfold exitW
 rw [if_pos h]
 cases searchW pp (exB pp true) 1201 [(zerosC pp.length, [])] 0 with
 | none => simp
 | some r =>
  obtain ⟨T, i⟩ := r
  dsimp only
  split <;> simp
theorem rest_ok {pp : List (List Cb)} (h : asmP pp = true) (o : List Cb) (p : Nat) (hp : p < pp.length) : SzOk (restP pp o p) ∧ (restP pp o p).length = pp.length - 1 := by
 have hr := asm_rows h
 have ho := allMoved_ok pp o p hr.1 hr.2 hp
 refine ⟨?_, restP_len _ _ _ hp⟩
 unfold restP backP
 refine small_ok (by rw [List.length_map]; exact ho.2.1) (fun p hp => ?_)
 obtain ⟨q, hq, rfl⟩ := List.mem_map.1 hp
 unfold downP
 rw [List.length_map]
 exact (ho.2.2 q hq).2
structure OutOk (out : List Ig') : Prop where
 len : out.length ≤ 100
 each : ∀ s ∈ out, s.f0.length ≤ 1200
theorem OutOk.add {out : List Ig'} (h : OutOk out) (hl : out.length < 100) {wy : List Int} {fr : Int} (hw : wy.length ≤ 1200) : OutOk (out ++ [⟨wy, fr⟩]) := by
 refine ⟨by rw [List.length_append]; simp only [List.length_cons, List.length_nil]; omega, fun s hs => ?_⟩
 rcases List.mem_append.1 hs with hs | hs
 ·exact h.each s hs
 ·obtain rfl := List.mem_singleton.1 hs
  exact hw
theorem greedyG_ok : ∀ (f : Nat) (pp : List (List Cb)) (out : List Ig'), OutOk out → out.length + f ≤ 100 → OutOk (greedyG f pp out).1
 | 0, pp, out, h, _ => h
 | f + 1, pp, out, h, hl => by
  unfold greedyG
  split
  ·split
   ·refine greedyG_ok f _ _ (h.add (by omega) (exitW_len pp)) ?_
    rw [List.length_append]
    simp only [List.length_cons, List.length_nil]
    omega
   ·exact ⟨by simp, fun s hs => by cases hs⟩
  ·exact h
theorem greedyR_ok (parts : List (List Cb)) : OutOk (greedyR parts).1 := by
 unfold greedyR
 split
 ·rename_i c
  exact greedyG_ok _ _ _ ⟨by simp, fun s hs => by cases hs⟩ (by have := (asm_of c).1; simp only [List.length_nil]; omega)
 ·exact ⟨by simp, fun s hs => by cases hs⟩
end Go.Proofs.Ytlbckkagjekhnaa.A

namespace Go.Proofs.Ytlbckkagjekhnaa.A
open Go.RowKit Go.Proofs.YtlbckkagjekhnaaW.PrintWords Go.Proofs.YtlbckkagjekhnaaW.PrintLast Go.Proofs.YtlbckkagjekhnaaW.PrintMore
set_option linter.unusedVariables false
set_option linter.unusedSimpArgs false
def RdsP (w0 : World) (r : Res) (A : Option Addr) (pp : List (List Cb)) : Prop := ∀ (fp : Nat → Prop) (w : World), Below w0.heap.size w0 w → r.P fp w → kP.C w A pp.length pp
theorem RdsP.old {w0 : World} {A : Option Addr} {pp : List (List Cb)} (h : kP.C w0 A pp.length pp) : RdsP w0 (Res.pure True) A pp := fun _ w hb _ => Kd.C_below h hb
theorem RdsP.rowS {w0 : World} {A : Option Addr} {e base n c : Nat} {pp : List (List Cb)} : RdsP w0 (Res.rowS kP e base (.slice A n c) pp) A pp := fun fp w hb h => (Kd.S_reads' h).2.2
theorem Sp.rdsP {w0 w : World} {rs : List Res} {i : Nat} {r : Res} {A : Option Addr} {pp : List (List Cb)} (h : Sp w0 rs w) (hi : rs[i]? = some r) (hr : RdsP w0 r A pp) : kP.C w A pp.length pp := by
 obtain ⟨fp, hp, _⟩ := h.get hi
 exact hr fp w h.below hp
abbrev kG : Kd Ig' := k98
set_option maxHeartbeats 8000000 in
set_option maxRecDepth 100000 in
theorem iGreedy_calls (Ap : Option Addr) (cp : Nat) (parts : List (List Cb)) (w : World) (hC : kP.C w Ap parts.length parts) (hcp : parts.length ≤ cp) (hz : SzOk parts) :
  Calls Try.prog 41 #[.agg #[.slice Ap parts.length cp]] w fun e w' => ∃ v_ : Value, e = .returned (.tuple #[v_, .int .i64 (greedyR parts).2]) ∧ Kd.S kG 98 w' w.heap.size (fun _ => True) v_ (greedyR parts).1 ∧ Below w.heap.size w w' := by
 have hu32 := Try.underlying32
 have hu98 := Try.underlying98
 have HS := A0_ (Sp.start w)
 have HC := A0_ hC
 have HCP := A0_ hcp
 have HZ := A0_ hz
 have HIA := A0_ (iIsAsm_calls w Ap cp parts hC hz)
 obtain ⟨R, hR⟩ : ∃ R, R = greedyR parts := ⟨_, rfl⟩
 rw [← hR]
 by_cases has : asmP parts = true
 ·have HR := A0_ (show R = greedyG parts.length parts [] by rw [hR]; unfold greedyR; rw [if_pos has])
  rw [has] at HIA
  have HL := A0_ (show 2 ≤ parts.length ∧ parts.length ≤ 8 by have := (asm_of has).1; omega)
  clear hC hcp hz hR has
  go_enter Try.func41, Try.ntmps41
  go_wp2_with (first
   | ((with_reducible refine gate_dst (N := 1) rfl ?_); go_loud (refine be_ (N := 1) (cs := #[.slice Ap parts.length cp]) (t := 32) ?_; intro ga hgb_ wb_ hcb_ hbb_; replace HS := A0_ (Sp.boxed HS.out hgb_ hcb_ hbb_); clear hgb_ hcb_ hbb_; have ha0 := (cl_ HS 0 0 rfl).trans rfl))
   | (go_at_call 56; go_loud (refine (HIA.out _ _ HS.out).mono ?_; rintro e wi_ ⟨rfl, hs_⟩; replace HS := A0_ (hs_); clear hs_ ha0; have ha0 := (cl_ HS 0 0 rfl).trans rfl))
   | ((with_reducible refine gate_dst (N := 14) rfl ?_); go_loud (refine Kd.R_lit (Kd.tag (fun _ => 0) kG) _ 98 ?hg (N := 14) ?hd (xs := ([] : List (Ig' × Nat))) (inner := []) (ok := fun _ => True) (okp := fun _ => True) ?hr ?hp (fun _ hk => hk) trivial (Below.refl _ _) (Nat.le_refl _) (by simp) ?_; (case hd => rfl); (case hg => rfl); (case hr => first | (go_simp; done) | (go_simp; rfl)); (case hp => exact (Reps.none _ _)); intro vl_ wl_ ho_ hb_ hg_ hn_; clear hg_ hn_; replace HS := A0_ (Sp.made' HS.out hb_ ho_); clear ho_ hb_; obtain ⟨Ao, co, ev_⟩ := Sp.slice HS.out (i := 0) rfl; subst ev_; have ha0 := (cl_ HS 1 0 rfl).trans rfl)))
  obtain ⟨gn, hg_⟩ : ∃ g_, g_ = (wl_).heap.size := ⟨_, rfl⟩; obtain ⟨wq, hw_⟩ : ∃ w_, w_ = (wl_).alloc (.cells #[.slice Ap parts.length cp] 32) := ⟨_, rfl⟩; (try rw [← hw_]); (try rw [← hg_]); have HS_ := A0_ (Sp.box HS.out #[.slice Ap parts.length cp] 32); rw [← hw_, ← hg_] at HS_; clear HS; have HS := HS_; clear HS_ hw_ hg_
  have HS1 := A0_ (Sp.ex_close (R := fun f => Res.row (Kd.tag f kG) 98 w.heap.size (.slice Ao 0 co) ([] : List Ig').zipIdx) (fun _ => 0) HS.out (i := 1) rfl)
  have HS_ := A0_ (Sp.arr (pre := [Res.pure True, Res.blk gn #[.slice Ap parts.length cp] 32, Res.rowS kG 98 w.heap.size (.slice Ao ([] : List Ig').length co) ([] : List Ig'), Res.blk ga #[.slice Ap parts.length cp] 32]) (pre' := [Res.rowS kG 98 w.heap.size (.slice Ao ([] : List Ig').length co) ([] : List Ig'), Res.blk gn #[.slice Ap parts.length cp] 32, Res.pure True, Res.blk ga #[.slice Ap parts.length cp] 32]) (rest := []) [2, 1, 0, 3] (Sp.pureIn HS1.out trivial) rfl rfl)
  clear HS HS1 ha0
  have HS : Aside0 (Sp w [Res.rowS kG 98 w.heap.size (.slice Ao ([] : List Ig').length co) ([] : List Ig'), Res.blk gn #[.slice Ap parts.length cp] 32, Res.pure True] wq) := A0_ (Sp.out HS_.out 3)
  clear HS_
  go_loopg [4, 5] (parts.length + 1) (fun kq v4 v5 w' => ∃ (pp : List (List Cb)) (out : List Ig') (Ao Aq : Option Addr) (co cq gn : Nat) (rQ : Res), v4 = .slice Ao out.length co ∧ v5 = .pointer (some ⟨gn, 0, none⟩) ∧ Aside0 (kq = pp.length + 1 ∧ R = greedyG pp.length pp out ∧ out.length + pp.length ≤ 8 ∧ SzOk pp ∧ pp.length ≤ cq ∧ RdsP w rQ Aq pp) ∧ Aside0 (Sp w [Res.rowS kG 98 w.heap.size (.slice Ao out.length co) out, Res.blk gn #[.slice Aq pp.length cq] 32, rQ] w'))
  case atStart => exact ⟨parts, [], Ao, Ap, co, cp, gn, Res.pure True, rfl, rfl, ⟨rfl, HR.out, by have := HL.out; simp only [List.length_nil]; omega, HZ.out, HCP.out, RdsP.old HC.out⟩, HS⟩
  case round =>
   clear HS HR HL HIA
   obtain ⟨pp, out, Ao, Aq, co, cq, gn, rQ, rfl, rfl, HX, HS⟩ := hrel
   obtain ⟨k1, rfl⟩ : ∃ k1, gk = k1 + 1 := ⟨gk - 1, by have := HX.out.1; omega⟩
   have HRQ := A0_ HX.out.2.2.2.2.2
   have HSZ := A0_ HX.out.2.2.2.1
   have HCQ := A0_ HX.out.2.2.2.2.1
   have hn0 := (cl_ HS 1 0 rfl).trans rfl
   by_cases c1 : 1 < pp.length
   ·have q0 : decide (1 < pp.length) = true := decide_eq_true c1
    have q1 : ((1 : Int) < (pp.length : Int)) = True := eq_true (by omega)
    have q2 : (1 < pp.length) = True := eq_true c1
    have HC1 := A0_ c1
    obtain ⟨q, hq⟩ : ∃ q, pp.length = q + 1 := ⟨pp.length - 1, by omega⟩
    have HQ := A0_ hq
    have hgr : R = (if (exitW pp).2.2 = 0 then greedyG q (restP pp (exitW pp).2.1 (((freeP pp (exitW pp).2.1).getD 0 0) / 6).toNat) (out ++ [⟨(exitW pp).1, (freeP pp (exitW pp).2.1).getD 0 0⟩]) else ([], codeG (exitW pp).2.2)) := by
     rw [HX.out.2.1, hq, greedyG, if_pos c1]
    have hes := exit_same pp
    by_cases hc : (exitW pp).2.2 = 0
    ·rw [if_pos hc] at hgr hes
     have hex := exOk hc
     obtain ⟨wy, hwy⟩ : ∃ wy, wy = (exitW pp).1 := ⟨_, rfl⟩
     obtain ⟨o, ho⟩ : ∃ o, o = (exitW pp).2.1 := ⟨_, rfl⟩
     rw [← hwy, ← ho] at hgr hes hex
     obtain ⟨fr, hfr⟩ : ∃ fr, fr = (freeP pp o).getD 0 0 := ⟨_, rfl⟩
     rw [← hfr] at hgr hes hex
     obtain ⟨p, hp⟩ : ∃ p, p = (fr / 6).toNat := ⟨_, rfl⟩
     rw [← hp] at hgr
     have HGR := A0_ hgr
     have HES := A0_ hes
     have HEX := A0_ hex
     have HPP := A0_ (show p < pp.length by have := hex.rng; omega)
     have HDV := A0_ (show wrap64 (fr.tdiv 6) = (p : Int) by have := hex.rng; have := HX.out.2.2.1; rw [Int.tdiv_eq_ediv_of_nonneg hex.rng.1]; unfold wrap64; omega)
     have HWL := A0_ (show wy.length ≤ 1048576 by have := hex.wl; omega)
     have HLO := A0_ hex.len
     have HRW := A0_ (asm_rows hex.asm)
     have HFN := A0_ hex.fol
     have HRO := A0_ (rest_ok hex.asm o p HPP.out)
     have HOU := A0_ (show out.length ≤ 8 by have := HX.out.2.2.1; omega)
     clear hgr hes hex hwy ho hfr hp hc hq c1
     go_wp2_with (first
      | (go_at_call 33; go_loud (have hfe_ := findExit_calls Aq cq pp _ (Sp.rdsP HS.out (i := 2) rfl HRQ.out) HSZ.out; rw [HES.out] at hfe_; refine hfe_.mono ?_; rintro e wf_ ⟨v_, rfl, hr_, hb_⟩; replace HS := A0_ (Sp.made' HS.out hb_ hr_); clear hr_ hb_ hn0 hfe_; obtain ⟨Aw, cw, ev_⟩ := Sp.slice HS.out (i := 0) rfl; subst ev_))
      | ((with_reducible refine gate_builtin (b := .append) (xs := #[.tmp 31, .tmp 35]) rfl ?_); go_loud (at_builtin; obtain ⟨fp_, gp_, hg_, hs_, hd_, hb_, hc_⟩ := Sp.joinS HS.out; refine Kd.S_append kG (w0 := w) w.heap.size rfl (.tmp 31) (.tmp 35) 49 98 (.agg #[.slice none 0 0, .int .i64 0]) 32 rfl Try.underlying49 info98 rfl (by decide) (by omega) (.slice Ao out.length co) (out) ((⟨wy, fr⟩ : Ig')) [.slice Aw wy.length cw, .int .i64 fr] (fun k => fp_ k ∨ gp_ k ∨ _ ≤ k) gp_ rfl rfl (k98_mkM _ _ _ (⟨wy, fr⟩ : Ig') hg_) (fun k hk => ⟨Or.inr (Or.inl hk), fun e_ => hd_ k hk ((Kd.S_R hs_).1 k e_.symm)⟩) (fun _ h => Or.inr (Or.inr h)) (Kd.S_mono hs_ (fun k hk => ⟨Or.inl hk, fun hg => hd_ k hg hk⟩)) HS.out.below HS.out.below.size ?aL ?_; (case aL => have := HOU.out; omega); intro va_ wa_ ho hb hg hat; have HWY := A0_ (Kd.R_reads' (Kd.R_kept hg_ (Kept.of_grown (S := fun k => (Value.slice Ao out.length co).ownBlock = some k) hg (Kept.refl _ _) (fun k e_ => .inl e_)) (fun k hk e_ => hd_ k hk ((Kd.S_R hs_).1 k e_)))).2.2; replace HS := A0_ (hc_ _ _ _ ho hg); clear ho hb hg hat hc_ hb_ hd_ hs_ hg_ fp_ gp_; obtain ⟨Ao2, co2, ev_⟩ := Sp.sliceS HS.out (i := 0) rfl; subst ev_; have hn0 := (cl_ HS 1 0 rfl).trans rfl; have HCI2 := A0_ (Sp.rdsP HS.out (i := 2) rfl HRQ.out)))
      | (go_at_call 68; go_loud (refine (newFrame_calls wa_ Aq cq pp [] wa_ (Sp.start wa_)).mono ?_; rintro e wn_ ⟨gf, gM, rfl, hs_⟩; have HL := A0_ hs_; clear hs_ hn0))
      | (go_at_call 69; go_loud (refine (follow_calls wa_ Aq cq gf gM pp (fr_at HCI2.out HSZ.out HEX.out.asm) (by have := HC1.out; omega) (Res.pure True) Aw cw wy (RdsI.old HWY.out) HWL.out HEX.out.mv [] _ (Sp.arr (pre := [Res.pure True, frBlk gf gM Aq cq pp, frMemo gM pp]) (pre' := [frBlk gf gM Aq cq pp, frMemo gM pp, Res.pure True]) (rest := []) [1, 2, 0] (Sp.pureIn HL.out trivial) rfl rfl)).mono ?_; rintro e wo_ hp_; rcases hp_ with ⟨o_, A_, c_, hfo_, hlo_, rfl, hs_⟩ | ⟨hfo_, _⟩; rotate_left; (exact absurd (HFN.out.symm.trans hfo_) (by simp)); obtain rfl := Option.some.inj (HFN.out.symm.trans hfo_); have hl3_ : Sp wa_ [Res.row kC 69 wa_.heap.size (.slice A_ o.length c_) o] _ := Sp.out (Sp.out (Sp.out hs_ 3) 2) 1; replace HS := A0_ (Sp.weak (Sp.app HS.out hl3_) (i := 0) (r' := Res.row kC 69 w.heap.size (.slice A_ o.length c_) o) rfl (fun fp hp => Kd.R_lower hp HS.out.below.size)); clear hs_ hl3_ HL hfo_ hlo_; have hn0 := (cl_ HS 2 0 rfl).trans rfl))
      | (go_at_call 51; go_loud ((try rw [HDV.out]); refine (restOf_calls Aq cq pp A_ c_ o p _ (Sp.rdsP HS.out (i := 3) rfl HRQ.out) HCQ.out (Sp.reads HS.out (i := 0) rfl).2.2 (Sp.reads HS.out (i := 0) rfl).2.1 HLO.out HRW.out.1 HRW.out.2 HPP.out).mono ?_; rintro e wr_ ⟨vr_, rfl, hs_, hb_⟩; replace HS := A0_ (Sp.madeS HS.out hb_ hs_); clear hb_ hs_ hn0; obtain ⟨Ar, cr, ev_⟩ := Sp.sliceS HS.out (i := 0) rfl; subst ev_; have HCR := A0_ (Sp.readsS HS.out (i := 0) rfl).2.1))
      | ((with_reducible refine gate_store (t := 32) (p := 5) rfl ?_); go_loud (refine store_event rfl rfl rfl (exec_store (v := .pointer (some ⟨gn, 0, none⟩)) (u := (.agg #[.slice Ar (restP pp o p).length cr])) rfl ?hp ?hx (Sp.blkStore HS.out (i := 3) rfl ((.agg #[.slice Ar (restP pp o p).length cr])) (#[.slice Ar (restP pp o p).length cr]) rfl rfl (by kernel_rfl) (by first | (simp; done) | (simp [Value.oneCell']; done) | (simp; exact ⟨rfl, rfl, rfl⟩)))) ?_; (case hp => first | rfl | (go_simp; done) | (go_simp; rfl)); (case hx => first | rfl | (go_simp; done) | (go_simp; rfl)); intro ws_ hw_; have HS_ := A0_ (Sp.blkAll HS.out (i := 3) rfl (#[.slice Ar (restP pp o p).length cr]) rfl); rw [← hw_] at HS_; clear HS hw_; have HS := HS_; clear HS_; have hn0 := (cl_ HS 3 0 rfl).trans rfl)))
     obtain ⟨gn2, hg_⟩ : ∃ g_, g_ = (ws_).heap.size := ⟨_, rfl⟩; obtain ⟨wz, hw_⟩ : ∃ w_, w_ = (ws_).alloc (.cells #[.slice Ar (restP pp o p).length cr] 32) := ⟨_, rfl⟩; (try rw [← hw_]); (try rw [← hg_]); have HS_ := A0_ (Sp.box HS.out #[.slice Ar (restP pp o p).length cr] 32); rw [← hw_, ← hg_] at HS_; clear HS; have HS := HS_; clear HS_ hw_ hg_
     clear hn0
     go_roundg k1
     case measure => omega
     case rel =>
      have h3_ : Sp w [Res.blk gn2 #[.slice Ar (restP pp o p).length cr] 32, Res.rowS kP 34 w.heap.size (.slice Ar (restP pp o p).length cr) (restP pp o p), Res.row kC 69 w.heap.size (.slice A_ o.length c_) o, Res.rowS kG 98 w.heap.size (.slice Ao2 (out ++ [(⟨wy, fr⟩ : Ig')]).length co2) (out ++ [(⟨wy, fr⟩ : Ig')]), Res.blk gn #[.slice Ar (restP pp o p).length cr] 32, rQ] wz := HS.out
      have h4_ := Sp.arr (rest := []) (pre := [Res.blk gn2 #[.slice Ar (restP pp o p).length cr] 32, Res.rowS kP 34 w.heap.size (.slice Ar (restP pp o p).length cr) (restP pp o p), Res.row kC 69 w.heap.size (.slice A_ o.length c_) o, Res.rowS kG 98 w.heap.size (.slice Ao2 (out ++ [(⟨wy, fr⟩ : Ig')]).length co2) (out ++ [(⟨wy, fr⟩ : Ig')]), Res.blk gn #[.slice Ar (restP pp o p).length cr] 32, rQ]) (pre' := [Res.rowS kG 98 w.heap.size (.slice Ao2 (out ++ [(⟨wy, fr⟩ : Ig')]).length co2) (out ++ [(⟨wy, fr⟩ : Ig')]), Res.blk gn2 #[.slice Ar (restP pp o p).length cr] 32, Res.rowS kP 34 w.heap.size (.slice Ar (restP pp o p).length cr) (restP pp o p), Res.row kC 69 w.heap.size (.slice A_ o.length c_) o, Res.blk gn #[.slice Ar (restP pp o p).length cr] 32, rQ]) [3, 0, 1, 2, 4, 5] h3_ rfl rfl
      have h5_ : Sp w [Res.rowS kG 98 w.heap.size (.slice Ao2 (out ++ [(⟨wy, fr⟩ : Ig')]).length co2) (out ++ [(⟨wy, fr⟩ : Ig')]), Res.blk gn2 #[.slice Ar (restP pp o p).length cr] 32, Res.rowS kP 34 w.heap.size (.slice Ar (restP pp o p).length cr) (restP pp o p)] wz := Sp.out (Sp.out (Sp.out h4_ 5) 4) 3
      have hl1 := HX.out.1
      have hl2 := HRO.out.2
      have hl3 := HC1.out
      have hl4 := HQ.out
      have hl5 := HX.out.2.2.1
      refine ⟨restP pp o p, out ++ [(⟨wy, fr⟩ : Ig')], Ao2, Ar, co2, cr, gn2, Res.rowS kP 34 w.heap.size (.slice Ar (restP pp o p).length cr) (restP pp o p), by simp only [List.length_append, List.length_cons, List.length_nil], rfl, ⟨by omega, ?_, ?_, HRO.out.1, HCR.out, RdsP.rowS⟩, ⟨h5_⟩⟩
      ·rw [show (restP pp o p).length = q by omega]; exact HGR.out
      ·rw [List.length_append]; simp only [List.length_cons, List.length_nil]; omega
    ·rw [if_neg hc] at hgr hes
     obtain ⟨cd, hcd⟩ : ∃ cd, cd = (exitW pp).2.2 := ⟨_, rfl⟩
     rw [← hcd] at hgr hes hc
     clear hcd
     by_cases d : cd = 1
     ·subst d
      have HGR := A0_ (show R = ([], 5) from hgr)
      have HES := A0_ hes
      clear hgr hes hc hq c1
      go_wp2_with (first
       | (go_at_call 33; go_loud (have hfe_ := findExit_calls Aq cq pp _ (Sp.rdsP HS.out (i := 2) rfl HRQ.out) HSZ.out; rw [HES.out] at hfe_; refine hfe_.mono ?_; rintro e wf_ ⟨v_, rfl, hr_, hb_⟩; replace HS := A0_ (Sp.far HS.out hb_); clear hr_ hb_ hn0 hfe_)))
      go_ret2
      rw [HGR.out]
      exact ⟨_, rfl, Kd.S_nil _ _ _ _ _, HS.out.below⟩
     ·have HGR := A0_ (show R = ([], cd) by rw [hgr]; unfold codeG; rw [if_neg d])
      have HES := A0_ hes
      have z0 : (cd == 0) = false := by rw [beq_eq_false_iff_ne]; exact hc
      have z1 : (cd != 0) = true := by rw [bne_iff_ne]; exact hc
      have z2 : (cd = 0) = False := eq_false hc
      have z3 : (cd == 1) = false := by rw [beq_eq_false_iff_ne]; exact d
      have z4 : (cd = 1) = False := eq_false d
      clear hgr hes hc hq c1 d
      go_wp2_with (first
       | (go_at_call 33; go_loud (have hfe_ := findExit_calls Aq cq pp _ (Sp.rdsP HS.out (i := 2) rfl HRQ.out) HSZ.out; rw [HES.out] at hfe_; refine hfe_.mono ?_; rintro e wf_ ⟨v_, rfl, hr_, hb_⟩; replace HS := A0_ (Sp.far HS.out hb_); clear hr_ hb_ hn0 hfe_)))
      go_ret2
      rw [HGR.out]
      exact ⟨_, rfl, Kd.S_nil _ _ _ _ _, HS.out.below⟩
   ·have q0 : decide (1 < pp.length) = false := decide_eq_false c1
    have q1 : ((1 : Int) < (pp.length : Int)) = False := eq_false (by omega)
    have q2 : (1 < pp.length) = False := eq_false c1
    have HGR := A0_ (show R = (out, 0) by
     rw [HX.out.2.1]
     rcases Nat.lt_or_ge 0 pp.length with h | h
     ·rw [show pp.length = 0 + 1 by omega, greedyG, if_neg c1]
     ·rw [show pp.length = 0 by omega, greedyG])
    clear c1
    go_wp2
    go_ret2
    rw [HGR.out]
    obtain ⟨fp_, hp_⟩ := Sp.getS HS.out (i := 0) rfl
    exact ⟨_, rfl, Kd.S_mono hp_ (fun _ _ => trivial), HS.out.below⟩
 ·have HR := A0_ (show R = ([], 1) by rw [hR]; unfold greedyR; rw [if_neg has])
  rw [show asmP parts = false from Bool.eq_false_iff.mpr has] at HIA
  clear hC hcp hz hR has
  go_enter Try.func41, Try.ntmps41
  go_wp2_with (first
   | ((with_reducible refine gate_dst (N := 1) rfl ?_); go_loud (refine be_ (N := 1) (cs := #[.slice Ap parts.length cp]) (t := 32) ?_; intro ga hgb_ wb_ hcb_ hbb_; replace HS := A0_ (Sp.boxed HS.out hgb_ hcb_ hbb_); clear hgb_ hcb_ hbb_; have ha0 := (cl_ HS 0 0 rfl).trans rfl))
   | (go_at_call 56; go_loud (refine (HIA.out _ _ HS.out).mono ?_; rintro e wi_ ⟨rfl, hs_⟩; replace HS := A0_ (hs_); clear hs_ ha0)))
  go_ret2
  rw [HR.out]
  exact ⟨_, rfl, Kd.S_nil _ _ _ _ _, HS.out.below⟩
def sfeF.T4 : Bool × List (List Nat × List Nat) := (true, [([], []), ([], []), ([], []), ([1, 2], [1, 2]), ([3], [3]), ([4], [4]), ([0, 3, 0], [0]), ([5, 6, 0, 1, 2, 3, 4, 5, 6], [5]), ([7, 0, 1, 2, 3, 4, 5, 6, 7], [])])
def sfeF.B4 : List Nat := [0, 0, 0, 6, 14, 30, 15, 127, 255]
theorem sfeF.tab4 : rtab .any (opsOf Try.f32 4) = sfeF.T4 := by kernel_rfl
theorem sfeF.bits4 : waitsOk sfeF.T4.2 sfeF.B4 = true := by kernel_rfl
set_option maxHeartbeats 8000000 in
set_option maxRecDepth 100000 in
theorem sGreedy_calls (Ap : Option Addr) (cp : Nat) (parts : List (List Cb)) (w : World) (hC : kP.C w Ap parts.length parts) (hcp : parts.length ≤ cp) (hz : SzOk parts) :
  Calls Try.prog 40 #[.agg #[.slice Ap parts.length cp]] w fun e w' => ∃ v_ : Value, e = .returned (.tuple #[v_, .int .i64 (greedyR parts).2]) ∧ Kd.S kG 98 w' w.heap.size (fun _ => True) v_ (greedyR parts).1 ∧ Below w.heap.size w w' := by
 have hu32 := Try.underlying32
 have hu98 := Try.underlying98
 have HS := A0_ (Sp.start w)
 have HC := A0_ hC
 have HCP := A0_ hcp
 have HZ := A0_ hz
 have HIA := A0_ (fun w' (hb : Below w.heap.size w w') => sIsAsm_calls Ap cp parts w' (Kd.C_below hC hb) hcp hz)
 obtain ⟨R, hR⟩ : ∃ R, R = greedyR parts := ⟨_, rfl⟩
 rw [← hR]
 by_cases has : asmP parts = true
 ·have HR := A0_ (show R = greedyG parts.length parts [] by rw [hR]; unfold greedyR; rw [if_pos has])
  rw [has] at HIA
  have HL := A0_ (show 2 ≤ parts.length ∧ parts.length ≤ 8 by have := (asm_of has).1; omega)
  clear hC hcp hz hR has
  go_enter Try.func40, Try.ntmps40
  go_wp2_with (first
   | ((with_reducible refine gate_dst (N := 1) rfl ?_); refine be_ (N := 1) (cs := #[.slice Ap parts.length cp]) (t := 32) ?_; intro ga hgb_ wb_ hcb_ hbb_; replace HS := A0_ (Sp.boxed HS.out hgb_ hcb_ hbb_); clear hgb_ hcb_ hbb_; have ha0 := (cl_ HS 0 0 rfl).trans rfl)
   | (go_at_call 54; go_loud (refine (HIA.out _ HS.out.below).mono ?_; rintro e wi_ ⟨rfl, hb_⟩; replace HS := A0_ (Sp.far HS.out hb_); clear hb_ ha0))
   | ((with_reducible refine gate_dst (N := 12) rfl ?_); refine Kd.R_lit (Kd.tag (fun _ => 0) kG) _ 98 ?hg (N := 12) ?hd (xs := ([] : List (Ig' × Nat))) (inner := []) (ok := fun _ => True) (okp := fun _ => True) ?hr ?hp (fun _ hk => hk) trivial (Below.refl _ _) (Nat.le_refl _) (by simp) ?_; (case hd => rfl); (case hg => rfl); (case hr => first | (go_simp; done) | (go_simp; rfl)); (case hp => exact (Reps.none _ _)); intro vl_ wl_ ho_ hb_ hg_ hn_; clear hg_ hn_; replace HS := A0_ (Sp.made' HS.out hb_ ho_); clear ho_ hb_; obtain ⟨Ao, co, ev_⟩ := Sp.slice HS.out (i := 0) rfl; subst ev_))
  have HS1 := A0_ (Sp.ex_close (R := fun f => Res.row (Kd.tag f kG) 98 w.heap.size (.slice Ao 0 co) ([] : List Ig').zipIdx) (fun _ => 0) HS.out (i := 0) rfl)
  have HS_ := A0_ (Sp.arr (pre := [Res.pure True, Res.rowS kG 98 w.heap.size (.slice Ao ([] : List Ig').length co) ([] : List Ig'), Res.blk ga #[.slice Ap parts.length cp] 32]) (pre' := [Res.rowS kG 98 w.heap.size (.slice Ao ([] : List Ig').length co) ([] : List Ig'), Res.blk ga #[.slice Ap parts.length cp] 32, Res.pure True]) (rest := []) [1, 2, 0] (Sp.pureIn HS1.out trivial) rfl rfl)
  clear HS HS1
  have HS := HS_
  clear HS_
  go_loopg [4] (parts.length + 1) (fun kq v4 w' => ∃ (pp : List (List Cb)) (out : List Ig') (Ao Aq : Option Addr) (co cq : Nat) (rQ : Res), v4 = .slice Ao out.length co ∧ Aside0 (kq = pp.length + 1 ∧ R = greedyG pp.length pp out ∧ out.length + pp.length ≤ 8 ∧ SzOk pp ∧ pp.length ≤ cq ∧ RdsP w rQ Aq pp) ∧ Aside0 (Sp w [Res.rowS kG 98 w.heap.size (.slice Ao out.length co) out, Res.blk ga #[.slice Aq pp.length cq] 32, rQ] w'))
  case atStart => exact ⟨parts, [], Ao, Ap, co, cp, Res.pure True, rfl, ⟨rfl, HR.out, by have := HL.out; simp only [List.length_nil]; omega, HZ.out, HCP.out, RdsP.old HC.out⟩, HS⟩
  case round =>
   clear HS HR HL HIA
   obtain ⟨pp, out, Ao, Aq, co, cq, rQ, rfl, HX, HS⟩ := hrel
   obtain ⟨k1, rfl⟩ : ∃ k1, gk = k1 + 1 := ⟨gk - 1, by have := HX.out.1; omega⟩
   have HRQ := A0_ HX.out.2.2.2.2.2
   have HSZ := A0_ HX.out.2.2.2.1
   have HCQ := A0_ HX.out.2.2.2.2.1
   have hn0 := (cl_ HS 1 0 rfl).trans rfl
   by_cases c1 : 1 < pp.length
   ·have q0 : decide (2 ≤ pp.length) = true := decide_eq_true c1
    have q1 : ((2 : Int) ≤ (pp.length : Int)) = True := eq_true (by omega)
    have q2 : (2 ≤ pp.length) = True := eq_true c1
    have HC1 := A0_ c1
    obtain ⟨q, hq⟩ : ∃ q, pp.length = q + 1 := ⟨pp.length - 1, by omega⟩
    have HQ := A0_ hq
    have hgr : R = (if (exitW pp).2.2 = 0 then greedyG q (restP pp (exitW pp).2.1 (((freeP pp (exitW pp).2.1).getD 0 0) / 6).toNat) (out ++ [⟨(exitW pp).1, (freeP pp (exitW pp).2.1).getD 0 0⟩]) else ([], codeG (exitW pp).2.2)) := by
     rw [HX.out.2.1, hq, greedyG, if_pos c1]
    by_cases has : asmP pp = true
    ·have HAS := A0_ has
     by_cases hc : (exitW pp).2.2 = 0
     ·rw [if_pos hc] at hgr
      have hex := exOk hc
      have hes : exitW pp = ((exitW pp).1, (exitW pp).2.1, 0) := by rw [← hc]
      obtain ⟨wy, hwy⟩ : ∃ wy, wy = (exitW pp).1 := ⟨_, rfl⟩
      obtain ⟨o, ho⟩ : ∃ o, o = (exitW pp).2.1 := ⟨_, rfl⟩
      rw [← hwy, ← ho] at hgr hes hex
      obtain ⟨KF, hKF⟩ := sfree_at HSZ.out has o hex.len hex.near
      have hfne := hex.fne
      obtain ⟨fr, hfr⟩ : ∃ fr, fr = (freeP pp o).getD 0 0 := ⟨_, rfl⟩
      rw [← hfr] at hgr hex
      obtain ⟨p, hp⟩ : ∃ p, p = (fr / 6).toNat := ⟨_, rfl⟩
      rw [← hp] at hgr
      obtain ⟨fs, hfs⟩ : ∃ fs, fs = freeP pp o := ⟨_, rfl⟩
      rw [← hfs] at hKF hfne hfr
      have HGR := A0_ hgr
      have HES := A0_ hes
      have HEX := A0_ hex
      have HKF := A0_ hKF
      have HNE := A0_ hfne
      have HF0 := A0_ hfr.symm
      have HPP := A0_ (show p < pp.length by have := hex.rng; omega)
      have HDV := A0_ (show wrap64 (fr.tdiv 6) = (p : Int) by have := hex.rng; have := HX.out.2.2.1; rw [Int.tdiv_eq_ediv_of_nonneg hex.rng.1]; unfold wrap64; omega)
      have HLO := A0_ hex.len
      have HRW := A0_ (asm_rows hex.asm)
      have HRO := A0_ (rest_ok hex.asm o p HPP.out)
      have HOU := A0_ (show out.length ≤ 8 by have := HX.out.2.2.1; omega)
      have p0 : ((0 : Int) < (fs.length : Int)) = True := eq_true (by omega)
      have p1 : (0 < fs.length) = True := eq_true hfne
      clear hgr hes hex hwy ho hfr hp hc hq c1 has hKF hfne hfs
      go_wp2_with (first
       | (go_at_call 54; go_loud (have hia_ := sIsAsm_calls Aq cq pp _ (Sp.rdsP HS.out (i := 2) rfl HRQ.out) HCQ.out HSZ.out; rw [HAS.out] at hia_; refine hia_.mono ?_; rintro e wi_ ⟨rfl, hb_⟩; replace HS := A0_ (Sp.far HS.out hb_); clear hb_ hn0 hia_; have hn0 := (cl_ HS 1 0 rfl).trans rfl))
       | (go_at_call 59; go_loud (have hxe_ := sExit_calls Aq cq pp _ (Sp.rdsP HS.out (i := 2) rfl HRQ.out) HCQ.out HSZ.out; rw [HES.out] at hxe_; refine hxe_.mono ?_; rintro e wx_ ⟨vi_, vo_, rfl, hs_⟩; obtain ⟨Aw, cw, ev1_⟩ := Sp.slice hs_ (i := 0) rfl; obtain ⟨A_, c_, ev2_⟩ := Sp.slice hs_ (i := 1) rfl; subst ev1_ ev2_; replace HS := A0_ (Sp.made2 HS.out hs_); clear hs_ hn0 hxe_; have hn0 := (cl_ HS 3 0 rfl).trans rfl))
       | (go_at_call 65; go_loud (refine (spec_l27Free.calls KF Aq cq pp A_ c_ o fs _ (Sp.rdsP HS.out (i := 4) rfl HRQ.out) HCQ.out (Sp.reads HS.out (i := 1) rfl).2.2 (Sp.reads HS.out (i := 1) rfl).2.1 HKF.out).mono ?_; rintro e wf_ ⟨vf_, rfl, hr_, hb_⟩; replace HS := A0_ (Sp.made' HS.out hb_ hr_); clear hr_ hb_ hn0; obtain ⟨Af, cf, ev_⟩ := Sp.slice HS.out (i := 0) rfl; subst ev_; obtain ⟨adf, ef_⟩ := Sp.some_ HS.out (i := 0) rfl HNE.out; subst ef_; have hfx := Sp.intCell0 HS.out (i := 0) rfl HNE.out; rw [HF0.out] at hfx; replace HS := A0_ (Sp.arr (pre := [Res.row kI 2 w.heap.size (.slice (some adf) fs.length cf) fs, Res.row kI 2 w.heap.size (.slice Aw wy.length cw) wy, Res.row kC 69 w.heap.size (.slice A_ o.length c_) o, Res.rowS kG 98 w.heap.size (.slice Ao out.length co) out, Res.blk ga #[.slice Aq pp.length cq] 32, rQ]) (pre' := [Res.row kI 2 w.heap.size (.slice Aw wy.length cw) wy, Res.rowS kG 98 w.heap.size (.slice Ao out.length co) out, Res.row kC 69 w.heap.size (.slice A_ o.length c_) o, Res.blk ga #[.slice Aq pp.length cq] 32, rQ, Res.row kI 2 w.heap.size (.slice (some adf) fs.length cf) fs]) (rest := []) [1, 3, 2, 4, 5, 0] HS.out rfl rfl)))
       | ((with_reducible refine gate_builtin (b := .append) (xs := #[.tmp 34, .tmp 38]) rfl ?_); at_builtin; obtain ⟨fp_, gp_, hg_, hs_, hd_, hb_, hc_⟩ := Sp.joinS HS.out; refine Kd.S_append kG (w0 := w) w.heap.size rfl (.tmp 34) (.tmp 38) 49 98 (.agg #[.slice none 0 0, .int .i64 0]) 32 rfl Try.underlying49 info98 rfl (by decide) (by omega) (.slice Ao out.length co) (out) ((⟨wy, fr⟩ : Ig')) [.slice Aw wy.length cw, .int .i64 fr] (fun k => fp_ k ∨ gp_ k ∨ _ ≤ k) gp_ rfl rfl (k98_mkM _ _ _ (⟨wy, fr⟩ : Ig') hg_) (fun k hk => ⟨Or.inr (Or.inl hk), fun e_ => hd_ k hk ((Kd.S_R hs_).1 k e_.symm)⟩) (fun _ h => Or.inr (Or.inr h)) (Kd.S_mono hs_ (fun k hk => ⟨Or.inl hk, fun hg => hd_ k hg hk⟩)) HS.out.below HS.out.below.size ?aL ?_; (case aL => have := HOU.out; omega); intro va_ wa_ ho hb hg hat; replace HS := A0_ (hc_ _ _ _ ho hg); clear ho hb hg hat hc_ hb_ hd_ hs_ hg_ fp_ gp_; obtain ⟨Ao2, co2, ev_⟩ := Sp.sliceS HS.out (i := 0) rfl; subst ev_; clear hfx; have hn0 := (cl_ HS 2 0 rfl).trans rfl)
       | (go_at_call 46; go_loud ((try rw [HDV.out]); refine (sl28Rest_calls Aq cq pp A_ c_ o p _ (Sp.rdsP HS.out (i := 3) rfl HRQ.out) HCQ.out (Sp.reads HS.out (i := 1) rfl).2.2 (Sp.reads HS.out (i := 1) rfl).2.1 HLO.out HRW.out.1 HRW.out.2 HPP.out).mono ?_; rintro e wr_ ⟨vr_, rfl, hs_, hb_⟩; replace HS := A0_ (Sp.madeS HS.out hb_ hs_); clear hb_ hs_ hn0; obtain ⟨Ar, cr, ev_⟩ := Sp.sliceS HS.out (i := 0) rfl; subst ev_; have HCR := A0_ (Sp.readsS HS.out (i := 0) rfl).2.1))
       | ((with_reducible refine gate_store (t := 32) (p := 1) rfl ?_); refine store_event rfl rfl rfl (exec_store (v := .pointer (some ⟨ga, 0, none⟩)) (u := (.agg #[.slice Ar (restP pp o p).length cr])) rfl ?hp ?hx (Sp.blkStore HS.out (i := 3) rfl ((.agg #[.slice Ar (restP pp o p).length cr])) (#[.slice Ar (restP pp o p).length cr]) rfl rfl (by kernel_rfl) (by first | (simp; done) | (simp [Value.oneCell']; done) | (simp; exact ⟨rfl, rfl, rfl⟩)))) ?_; (case hp => first | rfl | (go_simp; done) | (go_simp; rfl)); (case hx => first | rfl | (go_simp; done) | (go_simp; rfl)); intro ws_ hw_; have HS_ := A0_ (Sp.blkAll HS.out (i := 3) rfl (#[.slice Ar (restP pp o p).length cr]) rfl); rw [← hw_] at HS_; clear HS hw_; have HS := HS_; clear HS_))
      go_roundg k1
      case measure => omega
      case rel =>
       have h3_ : Sp w [Res.rowS kP 34 w.heap.size (.slice Ar (restP pp o p).length cr) (restP pp o p), Res.rowS kG 98 w.heap.size (.slice Ao2 (out ++ [(⟨wy, fr⟩ : Ig')]).length co2) (out ++ [(⟨wy, fr⟩ : Ig')]), Res.row kC 69 w.heap.size (.slice A_ o.length c_) o, Res.blk ga #[.slice Ar (restP pp o p).length cr] 32, rQ, Res.row kI 2 w.heap.size (.slice (some adf) fs.length cf) fs] _ := HS.out
       have h4_ := Sp.arr (rest := []) (pre := [Res.rowS kP 34 w.heap.size (.slice Ar (restP pp o p).length cr) (restP pp o p), Res.rowS kG 98 w.heap.size (.slice Ao2 (out ++ [(⟨wy, fr⟩ : Ig')]).length co2) (out ++ [(⟨wy, fr⟩ : Ig')]), Res.row kC 69 w.heap.size (.slice A_ o.length c_) o, Res.blk ga #[.slice Ar (restP pp o p).length cr] 32, rQ, Res.row kI 2 w.heap.size (.slice (some adf) fs.length cf) fs]) (pre' := [Res.rowS kG 98 w.heap.size (.slice Ao2 (out ++ [(⟨wy, fr⟩ : Ig')]).length co2) (out ++ [(⟨wy, fr⟩ : Ig')]), Res.blk ga #[.slice Ar (restP pp o p).length cr] 32, Res.rowS kP 34 w.heap.size (.slice Ar (restP pp o p).length cr) (restP pp o p), Res.row kC 69 w.heap.size (.slice A_ o.length c_) o, rQ, Res.row kI 2 w.heap.size (.slice (some adf) fs.length cf) fs]) [1, 3, 0, 2, 4, 5] h3_ rfl rfl
       have h5_ : Sp w [Res.rowS kG 98 w.heap.size (.slice Ao2 (out ++ [(⟨wy, fr⟩ : Ig')]).length co2) (out ++ [(⟨wy, fr⟩ : Ig')]), Res.blk ga #[.slice Ar (restP pp o p).length cr] 32, Res.rowS kP 34 w.heap.size (.slice Ar (restP pp o p).length cr) (restP pp o p)] _ := Sp.out (Sp.out (Sp.out h4_ 5) 4) 3
       have hl1 := HX.out.1
       have hl2 := HRO.out.2
       have hl3 := HC1.out
       have hl4 := HQ.out
       have hl5 := HX.out.2.2.1
       refine ⟨restP pp o p, out ++ [(⟨wy, fr⟩ : Ig')], Ao2, Ar, co2, cr, Res.rowS kP 34 w.heap.size (.slice Ar (restP pp o p).length cr) (restP pp o p), by simp only [List.length_append, List.length_cons, List.length_nil], ⟨by omega, ?_, ?_, HRO.out.1, HCR.out, RdsP.rowS⟩, ⟨h5_⟩⟩
       ·rw [show (restP pp o p).length = q by omega]; exact HGR.out
       ·rw [List.length_append]; simp only [List.length_cons, List.length_nil]; omega
     ·rw [if_neg hc] at hgr
      have hn1 := exitW_code has
      obtain ⟨x1, x2, cd, hxx⟩ : ∃ x1 x2 cd, exitW pp = (x1, x2, cd) := ⟨_, _, _, rfl⟩
      rw [hxx] at hgr hc hn1
      dsimp only at hgr hc hn1
      have HGR := A0_ (show R = ([], cd) by rw [hgr]; unfold codeG; rw [if_neg hn1])
      have HES := A0_ hxx
      have z0 : (cd == 0) = false := by rw [beq_eq_false_iff_ne]; exact hc
      have z1 : (cd != 0) = true := by rw [bne_iff_ne]; exact hc
      have z2 : (cd = 0) = False := eq_false hc
      clear hgr hc hn1 hxx hq c1 has
      go_wp2_with (first
       | (go_at_call 54; go_loud (have hia_ := sIsAsm_calls Aq cq pp _ (Sp.rdsP HS.out (i := 2) rfl HRQ.out) HCQ.out HSZ.out; rw [HAS.out] at hia_; refine hia_.mono ?_; rintro e wi_ ⟨rfl, hb_⟩; replace HS := A0_ (Sp.far HS.out hb_); clear hb_ hn0 hia_; have hn0 := (cl_ HS 1 0 rfl).trans rfl))
       | (go_at_call 59; go_loud (have hxe_ := sExit_calls Aq cq pp _ (Sp.rdsP HS.out (i := 2) rfl HRQ.out) HCQ.out HSZ.out; rw [HES.out] at hxe_; refine hxe_.mono ?_; rintro e wx_ ⟨vi_, vo_, rfl, hs_⟩; replace HS := A0_ (Sp.far HS.out hs_.below); clear hs_ hn0 hxe_)))
      go_ret2
      rw [HGR.out]
      exact ⟨_, rfl, Kd.S_nil _ _ _ _ _, HS.out.below⟩
    ·have HAS := A0_ (show asmP pp = false from Bool.eq_false_iff.mpr has)
     have HGR := A0_ (show R = ([], 5) by rw [hgr, exitW_asm has, if_neg (by simp)]; rfl)
     clear hgr hq c1 has
     go_wp2_with (first
      | (go_at_call 54; go_loud (have hia_ := sIsAsm_calls Aq cq pp _ (Sp.rdsP HS.out (i := 2) rfl HRQ.out) HCQ.out HSZ.out; rw [HAS.out] at hia_; refine hia_.mono ?_; rintro e wi_ ⟨rfl, hb_⟩; replace HS := A0_ (Sp.far HS.out hb_); clear hb_ hn0 hia_)))
     go_ret2
     rw [HGR.out]
     exact ⟨_, rfl, Kd.S_nil _ _ _ _ _, HS.out.below⟩
   ·have q0 : decide (2 ≤ pp.length) = false := decide_eq_false c1
    have q1 : ((2 : Int) ≤ (pp.length : Int)) = False := eq_false (by omega)
    have q2 : (2 ≤ pp.length) = False := eq_false c1
    have HGR := A0_ (show R = (out, 0) by
     rw [HX.out.2.1]
     rcases Nat.lt_or_ge 0 pp.length with h | h
     ·rw [show pp.length = 0 + 1 by omega, greedyG, if_neg c1]
     ·rw [show pp.length = 0 by omega, greedyG])
    clear c1
    go_wp2
    go_ret2
    rw [HGR.out]
    obtain ⟨fp_, hp_⟩ := Sp.getS HS.out (i := 0) rfl
    exact ⟨_, rfl, Kd.S_mono hp_ (fun _ _ => trivial), HS.out.below⟩
 ·have HR := A0_ (show R = ([], 1) by rw [hR]; unfold greedyR; rw [if_neg has])
  rw [show asmP parts = false from Bool.eq_false_iff.mpr has] at HIA
  clear hC hcp hz hR has
  go_enter Try.func40, Try.ntmps40
  go_wp2_with (first
   | ((with_reducible refine gate_dst (N := 1) rfl ?_); refine be_ (N := 1) (cs := #[.slice Ap parts.length cp]) (t := 32) ?_; intro ga hgb_ wb_ hcb_ hbb_; replace HS := A0_ (Sp.boxed HS.out hgb_ hcb_ hbb_); clear hgb_ hcb_ hbb_; have ha0 := (cl_ HS 0 0 rfl).trans rfl)
   | (go_at_call 54; go_loud (refine (HIA.out _ HS.out.below).mono ?_; rintro e wi_ ⟨rfl, hb_⟩; replace HS := A0_ (Sp.far HS.out hb_); clear hb_ ha0)))
  go_ret2
  rw [HR.out]
  exact ⟨_, rfl, Kd.S_nil _ _ _ _ _, HS.out.below⟩
end Go.Proofs.Ytlbckkagjekhnaa.A






namespace Go.Proofs.Ytlbckkagjekhnaa.A
open Go.RowKit Go.Proofs.YtlbckkagjekhnaaW.PrintWords Go.Proofs.YtlbckkagjekhnaaW.PrintLast Go.Proofs.YtlbckkagjekhnaaW.PrintMore
set_option linter.unusedVariables false
set_option linter.unusedSimpArgs false
section
attribute [local go_sem] max2_int min2_int max_two min_two max_three min_three max_four min_four
def laws_eqStage.f (k : Nat) (l0_0 : List Int) (a0_1 : Int) (l1_0 : List Int) (a1_1 : Int) : Option (Bool) := (laws_eqInt64S.f k l0_0 l1_0).bind fun t583 => (if t583 = true then (if a0_1 = a1_1 then (some true) else (some false)) else (some false))
set_option maxHeartbeats 8000000 in
set_option maxRecDepth 100000 in
theorem laws_eqStage.calls (k : Nat) (A0_0 : Option Addr) (c0_0 : Nat) (l0_0 : List Int) (a0_1 : Int) (A1_0 : Option Addr) (c1_0 : Nat) (l1_0 : List Int) (a1_1 : Int) (r : Bool) (w : World) (hr0_0 : Kd.C (Kd.int .i64) w A0_0 l0_0.length l0_0) (hc0_0 : l0_0.length ≤ c0_0) (hr1_0 : Kd.C (Kd.int .i64) w A1_0 l1_0.length l1_0) (hc1_0 : l1_0.length ≤ c1_0) (h : laws_eqStage.f k l0_0 a0_1 l1_0 a1_1 = some r) :
    Calls Try.prog 64 #[.agg #[.slice A0_0 l0_0.length c0_0, .int .i64 a0_1], .agg #[.slice A1_0 l1_0.length c1_0, .int .i64 a1_1]] w fun e w' => e = .returned (.bool r) ∧ Below w.heap.size w w' := by
 (have hu98 := Try.underlying98); (have HR0_0 := A0_ hr0_0); (have HC0_0 := A0_ hc0_0); clear hr0_0 hc0_0; (have HR1_0 := A0_ hr1_0); (have HC1_0 := A0_ hc1_0); clear hr1_0 hc1_0; (have HB := A0_ (Below.refl w.heap.size w))
 have H : ((laws_eqInt64S.f k l0_0 l1_0).bind fun t583 => (if t583 = true then (if a0_1 = a1_1 then (some true) else (some false)) else (some false))) = some r := h
 clear h; (replace H := Option.bind_eq_some_iff.mp H); (obtain ⟨t583, A30, H⟩ := H); (try dsimp only at H); (have A3 := A0_ A30); clear A30; (have H0_ := A0_ H); clear H; (go_enter Try.func64, Try.ntmps64); (go_wp2_with (first | ((with_reducible refine gate_dst (N := 2) rfl ?_); refine be_ (N := 2) (cs := #[.slice A0_0 l0_0.length c0_0, .int .i64 a0_1]) (t := 98) ?_; intro gb581 hg w4 hbox hb; have n0_ := A0_ (below_step bw_ hb); have n1_ := A0_ (hbox); have n2_ := A0_ ((by rw [hg]; exact (below_size bw_) : w.heap.size ≤ gb581)); have n3_ := A0_ ((by rw [hg]; exact (below_size bw_) : w.heap.size ≤ gb581)); clear HB; have HB := n0_; have BK581 := n1_; have GW581 := n2_; have GE581 := n3_; clear n0_ n1_ n2_ n3_; clear hb hbox hg) | ((with_reducible refine gate_dst (N := 3) rfl ?_); refine be_ (N := 3) (cs := #[.slice A1_0 l1_0.length c1_0, .int .i64 a1_1]) (t := 98) ?_; intro gb582 hg w5 hbox hb; have n0_ := A0_ (blk_below (g := gb581) (o := .cells #[.slice A0_0 l0_0.length c0_0, .int .i64 a0_1] 98 (0, 0)) (bk_ BK581) hb); have n1_ := A0_ (below_step bx_ hb); have n2_ := A0_ (hbox); have n3_ := A0_ ((by rw [hg]; exact (below_size bx_) : w.heap.size ≤ gb582)); have n4_ := A0_ ((by rw [hg]; exact (below_size bx_) : w.heap.size ≤ gb582)); have n5_ := A0_ ((by rw [hg]; exact Nat.ne_of_lt (blk_lt (g := gb581) (o := .cells #[.slice A0_0 l0_0.length c0_0, .int .i64 a0_1] 98 (0, 0)) (bk_ BK581)) : gb581 ≠ gb582)); have n6_ := A0_ ((by rw [hg]; exact Nat.ne_of_gt (blk_lt (g := gb581) (o := .cells #[.slice A0_0 l0_0.length c0_0, .int .i64 a0_1] 98 (0, 0)) (bk_ BK581)) : gb582 ≠ gb581)); clear BK581; clear HB; have BK581 := n0_; have HB := n1_; have BK582 := n2_; have GW582 := n3_; have GE582 := n4_; have NB581_582 := n5_; have NB582_581 := n6_; clear n0_ n1_ n2_ n3_ n4_ n5_ n6_; clear hb hbox hg; have hnb6 := NB581_582.out; have hnc6 := NB582_581.out; have hcz7_0 : w5.cell? ⟨gb581, 0, none⟩ = some (.slice A0_0 l0_0.length c0_0) := (blk_cell BK581.out 0).trans rfl; have hcz7_1 : w5.cell? ⟨gb581, 1, none⟩ = some (.int .i64 a0_1) := (blk_cell BK581.out 1).trans rfl; have hfz7_0 := blk_frozen BK581.out 0; have hfz7_1 := blk_frozen BK581.out 1; have hcz8_0 : w5.cell? ⟨gb582, 0, none⟩ = some (.slice A1_0 l1_0.length c1_0) := (blk_cell BK582.out 0).trans rfl; have hcz8_1 : w5.cell? ⟨gb582, 1, none⟩ = some (.int .i64 a1_1) := (blk_cell BK582.out 1).trans rfl; have hfz8_0 := blk_frozen BK582.out 0; have hfz8_1 := blk_frozen BK582.out 1) | ((with_reducible refine gate_callee (f := 34) rfl ?_); refine goesL_ (some 9) rfl rfl Try.func34 (by kernel_rfl) rfl #[.slice A0_0 l0_0.length c0_0, .slice A1_0 l1_0.length c1_0] rfl (by (try simp only [List.map_toArray, List.map_cons, List.map_nil]); first | done | rfl | (simp only [List.length_drop, List.length_take]; rfl)) ?_; (with_reducible refine (laws_eqInt64S.calls k _ _ l0_0 _ _ l1_0 t583 _ ?side1 ?side2 ?side3 ?side4 A3.out).mono ?_); (case side1 => repeat (first | exact (Kd.C_below HR0_0.out HB.out) | (with_reducible refine Kd.C_alloc ?_ _) | (with_reducible refine Kd.C_drewN ?_ _) | (with_reducible refine Kd.C_drew ?_))); (case side2 => exact HC0_0.out); (case side3 => repeat (first | exact (Kd.C_below HR1_0.out HB.out) | (with_reducible refine Kd.C_alloc ?_ _) | (with_reducible refine Kd.C_drewN ?_ _) | (with_reducible refine Kd.C_drew ?_))); (case side4 => exact HC1_0.out); rintro e w' ⟨rfl, ⟨nd, rfl⟩⟩; refine ⟨_, rfl, ?_⟩; refine Stop0.out ?_))); (refine Stop0.mk ?_); (have H := H0_.out); clear H0_; (by_cases c9 : t583 = true)
 ·subst c9; (have H1 := H); (rw [if_pos rfl] at H1); clear H; (have H := H1); clear H1; (by_cases c10 : a0_1 = a1_1)
  ·(rw [if_pos c10] at H); (have c10b0 : (a0_1 == a1_1) = true := beq_iff_eq.mpr c10); (have c10b1 : (a0_1 != a1_1) = false := bne_eq_false_iff_eq.mpr c10); clear c10; (obtain rfl := Option.some.inj H); (have hnb11 := NB581_582.out); (have hnc11 := NB582_581.out); (have hcz12_0 : w5.cell? ⟨gb581, 0, none⟩ = some (.slice A0_0 l0_0.length c0_0) := (blk_cell BK581.out 0).trans rfl); (have hcz12_1 : w5.cell? ⟨gb581, 1, none⟩ = some (.int .i64 a0_1) := (blk_cell BK581.out 1).trans rfl); (have hfz12_0 := blk_frozen BK581.out 0); (have hfz12_1 := blk_frozen BK581.out 1); (have hcz13_0 : w5.cell? ⟨gb582, 0, none⟩ = some (.slice A1_0 l1_0.length c1_0) := (blk_cell BK582.out 0).trans rfl); (have hcz13_1 : w5.cell? ⟨gb582, 1, none⟩ = some (.int .i64 a1_1) := (blk_cell BK582.out 1).trans rfl); (have hfz13_0 := blk_frozen BK582.out 0); (have hfz13_1 := blk_frozen BK582.out 1); go_wp2; go_ret; (exact ⟨er_, bx_⟩)
  ·(rw [if_neg c10] at H); (have c10b0 : (a0_1 == a1_1) = false := beq_eq_false_iff_ne.mpr c10); (have c10b1 : (a0_1 != a1_1) = true := bne_iff_ne.mpr c10); (obtain rfl := Option.some.inj H); (have hnb14 := NB581_582.out); (have hnc14 := NB582_581.out); (have hcz15_0 : w5.cell? ⟨gb581, 0, none⟩ = some (.slice A0_0 l0_0.length c0_0) := (blk_cell BK581.out 0).trans rfl); (have hcz15_1 : w5.cell? ⟨gb581, 1, none⟩ = some (.int .i64 a0_1) := (blk_cell BK581.out 1).trans rfl); (have hfz15_0 := blk_frozen BK581.out 0); (have hfz15_1 := blk_frozen BK581.out 1); (have hcz16_0 : w5.cell? ⟨gb582, 0, none⟩ = some (.slice A1_0 l1_0.length c1_0) := (blk_cell BK582.out 0).trans rfl); (have hcz16_1 : w5.cell? ⟨gb582, 1, none⟩ = some (.int .i64 a1_1) := (blk_cell BK582.out 1).trans rfl); (have hfz16_0 := blk_frozen BK582.out 0); (have hfz16_1 := blk_frozen BK582.out 1); go_wp2; go_ret; (exact ⟨er_, bx_⟩)
 ·(replace c9 := Bool.eq_false_iff.mpr c9); subst c9; (have H1 : (some false) = some r := by rw [if_neg (show ¬ (false = true) by decide)] at H; exact H); clear H; (have H := H1); clear H1; (obtain rfl := Option.some.inj H); go_wp2; go_ret; (exact ⟨er_, bx_⟩)
end
section
attribute [local go_sem] max2_int min2_int max_two min_two max_three min_three max_four min_four
def laws_eqStageS.l0 : Nat → List (S98) → List (S98) → Int → Option (Bool)
  | 0, _, _, _ => none
  | k + 1, x0, x1, x5 => if x5 < (x0.length : Int) then (if 0 ≤ x5 then (if x5 < (x1.length : Int) then ((laws_eqStage.f k ((rd_T98 x0 x5).f0) ((rd_T98 x0 x5).f1) ((rd_T98 x1 x5).f0) ((rd_T98 x1 x5).f1)).bind fun t586 => (if t586 = true then (laws_eqStageS.l0 k x0 x1 (wrap64 (x5 + 1))) else (some false))) else (none)) else (none)) else (some true)
def laws_eqStageS.f (k : Nat) (l0 : List (S98)) (l1 : List (S98)) : Option (Bool) := if (l0.length : Int) = (l1.length : Int) then (laws_eqStageS.l0 k l0 l1 0) else (some false)
def laws_eqStageS.T6 : Bool × List (List Nat × List Nat) := (true, [([], []), ([], []), ([0, 1], [0, 1]), ([2], [2]), ([], []), ([], []), ([4, 5], [4, 5]), ([6], [6]), ([3, 7], [3, 7]), ([8], [8])])
def laws_eqStageS.B6 : List Nat := [0, 0, 3, 7, 0, 0, 48, 112, 255, 511]
theorem laws_eqStageS.tab6 : rtab .any (opsOf Try.f31 6) = laws_eqStageS.T6 := by kernel_rfl
theorem laws_eqStageS.bits6 : waitsOk laws_eqStageS.T6.2 laws_eqStageS.B6 = true := by kernel_rfl
set_option maxHeartbeats 8000000 in
set_option maxRecDepth 100000 in
theorem laws_eqStageS.calls (k : Nat) (A0 : Option Addr) (c0 : Nat) (l0 : List (S98)) (A1 : Option Addr) (c1 : Nat) (l1 : List (S98)) (r : Bool) (w : World) (hr0 : Kd.C k98 w A0 l0.length l0) (hc0 : l0.length ≤ c0) (hr1 : Kd.C k98 w A1 l1.length l1) (hc1 : l1.length ≤ c1) (h : laws_eqStageS.f k l0 l1 = some r) :
    Calls Try.prog 31 #[.slice A0 l0.length c0, .slice A1 l1.length c1] w fun e w' => e = .returned (.bool r) ∧ Below w.heap.size w w' := by
 (have hu98 := Try.underlying98); (have HR0 := A0_ hr0); (have HC0 := A0_ hc0); clear hr0 hc0; (have HR1 := A0_ hr1); (have HC1 := A0_ hc1); clear hr1 hc1; (have HB := A0_ (Below.refl w.heap.size w)); (have H : (if (l0.length : Int) = (l1.length : Int) then (laws_eqStageS.l0 k l0 l1 0) else (some false)) = some r := h); clear h; (by_cases c3 : (l0.length : Int) = (l1.length : Int))
 ·(rw [if_pos c3] at H); (have c3b0 : ((l0.length : Int) == (l1.length : Int)) = true := beq_iff_eq.mpr c3); (have c3b1 : ((l0.length : Int) != (l1.length : Int)) = false := bne_eq_false_iff_eq.mpr c3); (have c3b2 : (l0.length == l1.length) = true := by first | simpa using c3 | (simp at c3 ⊢; omega)); clear c3; (have H' := A0_ H); clear H; (go_enter Try.func31, Try.ntmps31); go_wp2
  go_loopg [5] k (fun kq v5 w' => ∃ (x5_1 : Int), v5 = .int .i64 x5_1 ∧ Aside0 (laws_eqStageS.l0 kq l0 l1 x5_1 = some r) ∧ Aside0 (kq ≤ k) ∧ Aside0 (Below w.heap.size w w'))
  case atStart => exact ⟨(0), (by first | rfl | (simp; done) | (simp [*]; done)), H', ⟨Nat.le_refl _⟩, ⟨by repeat (first | (with_reducible first | exact HB.out | apply ba_ | apply bn_ | apply bd_) | exact HB.out)⟩⟩
  case round =>
   clear H'; (try clear c1); (try clear p2); (try clear c3); (try clear c3b0); (try clear c3b1); (try clear c3b2); (obtain ⟨x5_1, rfl, HA, HK1, HB⟩ := hrel)
   cases gk with
   | zero => exact absurd HA.out (by simp [laws_eqStageS.l0])
   | succ k1 =>
    (have H := HA.out); clear HA; (simp only [laws_eqStageS.l0] at H); (by_cases c4 : x5_1 < (l0.length : Int))
    ·(rw [if_pos c4] at H); (have c4b0 : decide (x5_1 < (l0.length : Int)) = true := decide_eq_true c4); clear c4; (by_cases c5 : 0 ≤ x5_1)
     ·(rw [if_pos c5] at H); (have c5b0 : decide (0 ≤ x5_1) = true := decide_eq_true c5); clear c5; (by_cases c6 : x5_1 < (l1.length : Int))
      ·(rw [if_pos c6] at H); (have c6b0 : decide (x5_1 < (l1.length : Int)) = true := decide_eq_true c6); clear c6; (replace H := Option.bind_eq_some_iff.mp H); (obtain ⟨t586, A70, H⟩ := H); (try dsimp only at H); (have A7 := A0_ A70); clear A70; (by_cases c8 : t586 = true)
       ·subst c8; (have H1 := H); (rw [if_pos rfl] at H1); clear H; (have H := H1); clear H1; (have H' := A0_ H); clear H; (try go_wp2); (replace HB := A0_ (below_drew1 HB.out)); (have p584 : 0 ≤ (x5_1 : Int) := of_decide_eq_true as_); (have q584 : x5_1 < (l0.length : Int) := of_decide_eq_true as_); (obtain ⟨ad584, A584_0, c584_0, e584, hx584_0, hx584_1, hl584_0, hi584_0⟩ := at_T98 HR0.out x5_1 p584 q584); (have hw584_1 := hx584_1); (have hw584_0 := hx584_0); (cases e584); (replace hx584_0 := (HB.out.cell (World.block_lt_of_cell? w _ hx584_0)).trans hx584_0); (replace hx584_1 := (HB.out.cell (World.block_lt_of_cell? w _ hx584_1)).trans hx584_1); (have HR584_0 := A0_ hi584_0); (have HC584_0 := A0_ hl584_0); clear hi584_0 hl584_0; (replace p584 := eq_true p584); (replace q584 := eq_true q584); (have p585 : 0 ≤ (x5_1 : Int) := of_decide_eq_true as_); (have q585 : x5_1 < (l1.length : Int) := of_decide_eq_true as_); (obtain ⟨ad585, A585_0, c585_0, e585, hx585_0, hx585_1, hl585_0, hi585_0⟩ := at_T98 HR1.out x5_1 p585 q585); (have hw585_1 := hx585_1); (have hw585_0 := hx585_0); (cases e585); (replace hx585_0 := (HB.out.cell (World.block_lt_of_cell? w _ hx585_0)).trans hx585_0); (replace hx585_1 := (HB.out.cell (World.block_lt_of_cell? w _ hx585_1)).trans hx585_1); (have HR585_0 := A0_ hi585_0); (have HC585_0 := A0_ hl585_0); clear hi585_0 hl585_0; (replace p585 := eq_true p585); (replace q585 := eq_true q585)
        refine start_ (n := 10) (S := fun w' => w'.cell? (ad584.add ((x5_1).toNat * 2)) = some (.slice A584_0 ((rd_T98 l0 x5_1).f0).length c584_0) ∧ w'.cell? ⟨(ad584.add ((x5_1).toNat * 2)).block, (ad584.add ((x5_1).toNat * 2)).off + 1, none⟩ = some (.int .i64 ((rd_T98 l0 x5_1).f1)) ∧ w'.cell? (ad585.add ((x5_1).toNat * 2)) = some (.slice A585_0 ((rd_T98 l1 x5_1).f0).length c585_0) ∧ w'.cell? ⟨(ad585.add ((x5_1).toNat * 2)).block, (ad585.add ((x5_1).toNat * 2)).off + 1, none⟩ = some (.int .i64 ((rd_T98 l1 x5_1).f1))) (ds := []) #[ff,ff,ff,ff,ff,ff,ff,ff,ff,ff] (by kernel_rfl) rfl rfl ⟨((HB.out.cell (World.block_lt_of_cell? w _ hw584_0)).trans hw584_0), ((HB.out.cell (World.block_lt_of_cell? w _ hw584_1)).trans hw584_1), ((HB.out.cell (World.block_lt_of_cell? w _ hw585_0)).trans hw585_0), ((HB.out.cell (World.block_lt_of_cell? w _ hw585_1)).trans hw585_1)⟩ (fun hHeld => ?_); refine with_tabW laws_eqStageS.tab6 laws_eqStageS.bits6 (fun HT_ HW_ => ?_)
        (generalize wr.drew = w9 at HB HR584_0 HR585_0 hx584_0 hx584_1 hx585_0 hx585_1 hHeld ⊢); (refine on_ 0 (some 17) ?_); (refine on_ 1 (some 18) ?_); (refine on_ 2 (some 19) ?_); (refine on_ 4 (some 21) ?_); (refine on_ 5 (some 22) ?_); (refine on_ 6 (some 23) ?_); (refine tk_ 3 (some 20) ?_); (refine tk_ 7 (some 24) ?_)
        refine o1_ 8 (some 25) (fun K hK => ?_)
        (refine gs_ Try.func64 #[.agg #[.slice A584_0 ((rd_T98 l0 x5_1).f0).length c584_0, .int .i64 ((rd_T98 l0 x5_1).f1)], .agg #[.slice A585_0 ((rd_T98 l1 x5_1).f0).length c585_0, .int .i64 ((rd_T98 l1 x5_1).f1)]] ?_); (with_reducible refine (laws_eqStage.calls k1 _ _ ((rd_T98 l0 x5_1).f0) ((rd_T98 l0 x5_1).f1) _ _ ((rd_T98 l1 x5_1).f0) ((rd_T98 l1 x5_1).f1) true _ ?side1 ?side2 ?side3 ?side4 A7.out).mono ?_); ((case side1 => repeat (first | exact (Kd.C_below HR584_0.out HB.out) | (with_reducible refine Kd.C_alloc ?_ _) | (with_reducible refine Kd.C_drewN ?_ _) | (with_reducible refine Kd.C_drew ?_)))); ((case side2 => exact HC584_0.out)); ((case side3 => repeat (first | exact (Kd.C_below HR585_0.out HB.out) | (with_reducible refine Kd.C_alloc ?_ _) | (with_reducible refine Kd.C_drewN ?_ _) | (with_reducible refine Kd.C_drew ?_)))); ((case side4 => exact HC585_0.out)); (rintro e w10 ⟨rfl, hb⟩); (refine ⟨_, rfl, ?_⟩); (replace HB := A0_ (below_step bw_ hb)); ((try clear hb)); ((try clear hb2)); ((try clear hk)); ((try clear hi))
        refine hK.out _ _ ⟨((HB.out.cell (World.block_lt_of_cell? w _ hw584_0)).trans hw584_0), ((HB.out.cell (World.block_lt_of_cell? w _ hw584_1)).trans hw584_1), ((HB.out.cell (World.block_lt_of_cell? w _ hw585_0)).trans hw585_0), ((HB.out.cell (World.block_lt_of_cell? w _ hw585_1)).trans hw585_1)⟩ (fun hHeld => ?_)
        clear hK K; (refine nm_ (some 25) ?_); (refine on_ 9 (some 26) ?_); (refine dn_ ?_); (try go_wp2); (go_roundg k1)
        case measure => have := HK1.out; omega
        case rel => exact ⟨(wrap64 (x5_1 + 1)), (by first | rfl | (simp; done) | (simp [*]; done)), H', ⟨by have := HK1.out; omega⟩, ⟨by repeat (first | (with_reducible first | exact HB.out | apply ba_ | apply bn_ | apply bd_) | exact HB.out)⟩⟩
       ·(replace c8 := Bool.eq_false_iff.mpr c8); subst c8; (have H1 : (some false) = some r := by rw [if_neg (show ¬ (false = true) by decide)] at H; exact H); clear H; (have H := H1); clear H1; (obtain rfl := Option.some.inj H); (try go_wp2); (replace HB := A0_ (below_drew1 HB.out)); (have p584 : 0 ≤ (x5_1 : Int) := of_decide_eq_true as_); (have q584 : x5_1 < (l0.length : Int) := of_decide_eq_true as_); (obtain ⟨ad584, A584_0, c584_0, e584, hx584_0, hx584_1, hl584_0, hi584_0⟩ := at_T98 HR0.out x5_1 p584 q584); (have hw584_1 := hx584_1); (have hw584_0 := hx584_0); (cases e584); (replace hx584_0 := (HB.out.cell (World.block_lt_of_cell? w _ hx584_0)).trans hx584_0); (replace hx584_1 := (HB.out.cell (World.block_lt_of_cell? w _ hx584_1)).trans hx584_1); (have HR584_0 := A0_ hi584_0); (have HC584_0 := A0_ hl584_0); clear hi584_0 hl584_0; (replace p584 := eq_true p584); (replace q584 := eq_true q584); (have p585 : 0 ≤ (x5_1 : Int) := of_decide_eq_true as_); (have q585 : x5_1 < (l1.length : Int) := of_decide_eq_true as_); (obtain ⟨ad585, A585_0, c585_0, e585, hx585_0, hx585_1, hl585_0, hi585_0⟩ := at_T98 HR1.out x5_1 p585 q585); (have hw585_1 := hx585_1); (have hw585_0 := hx585_0); (cases e585); (replace hx585_0 := (HB.out.cell (World.block_lt_of_cell? w _ hx585_0)).trans hx585_0); (replace hx585_1 := (HB.out.cell (World.block_lt_of_cell? w _ hx585_1)).trans hx585_1); (have HR585_0 := A0_ hi585_0); (have HC585_0 := A0_ hl585_0); clear hi585_0 hl585_0; (replace p585 := eq_true p585); (replace q585 := eq_true q585)
        refine start_ (n := 10) (S := fun w' => w'.cell? (ad584.add ((x5_1).toNat * 2)) = some (.slice A584_0 ((rd_T98 l0 x5_1).f0).length c584_0) ∧ w'.cell? ⟨(ad584.add ((x5_1).toNat * 2)).block, (ad584.add ((x5_1).toNat * 2)).off + 1, none⟩ = some (.int .i64 ((rd_T98 l0 x5_1).f1)) ∧ w'.cell? (ad585.add ((x5_1).toNat * 2)) = some (.slice A585_0 ((rd_T98 l1 x5_1).f0).length c585_0) ∧ w'.cell? ⟨(ad585.add ((x5_1).toNat * 2)).block, (ad585.add ((x5_1).toNat * 2)).off + 1, none⟩ = some (.int .i64 ((rd_T98 l1 x5_1).f1))) (ds := []) #[ff,ff,ff,ff,ff,ff,ff,ff,ff,ff] (by kernel_rfl) rfl rfl ⟨((HB.out.cell (World.block_lt_of_cell? w _ hw584_0)).trans hw584_0), ((HB.out.cell (World.block_lt_of_cell? w _ hw584_1)).trans hw584_1), ((HB.out.cell (World.block_lt_of_cell? w _ hw585_0)).trans hw585_0), ((HB.out.cell (World.block_lt_of_cell? w _ hw585_1)).trans hw585_1)⟩ (fun hHeld => ?_); refine with_tabW laws_eqStageS.tab6 laws_eqStageS.bits6 (fun HT_ HW_ => ?_)
        (generalize wr.drew = w11 at HB HR584_0 HR585_0 hx584_0 hx584_1 hx585_0 hx585_1 hHeld ⊢); (refine on_ 0 (some 17) ?_); (refine on_ 1 (some 18) ?_); (refine on_ 2 (some 19) ?_); (refine on_ 4 (some 21) ?_); (refine on_ 5 (some 22) ?_); (refine on_ 6 (some 23) ?_); (refine tk_ 3 (some 20) ?_); (refine tk_ 7 (some 24) ?_)
        refine o1_ 8 (some 25) (fun K hK => ?_)
        (refine gs_ Try.func64 #[.agg #[.slice A584_0 ((rd_T98 l0 x5_1).f0).length c584_0, .int .i64 ((rd_T98 l0 x5_1).f1)], .agg #[.slice A585_0 ((rd_T98 l1 x5_1).f0).length c585_0, .int .i64 ((rd_T98 l1 x5_1).f1)]] ?_); (with_reducible refine (laws_eqStage.calls k1 _ _ ((rd_T98 l0 x5_1).f0) ((rd_T98 l0 x5_1).f1) _ _ ((rd_T98 l1 x5_1).f0) ((rd_T98 l1 x5_1).f1) false _ ?side1 ?side2 ?side3 ?side4 A7.out).mono ?_); ((case side1 => repeat (first | exact (Kd.C_below HR584_0.out HB.out) | (with_reducible refine Kd.C_alloc ?_ _) | (with_reducible refine Kd.C_drewN ?_ _) | (with_reducible refine Kd.C_drew ?_)))); ((case side2 => exact HC584_0.out)); ((case side3 => repeat (first | exact (Kd.C_below HR585_0.out HB.out) | (with_reducible refine Kd.C_alloc ?_ _) | (with_reducible refine Kd.C_drewN ?_ _) | (with_reducible refine Kd.C_drew ?_)))); ((case side4 => exact HC585_0.out)); (rintro e w12 ⟨rfl, hb⟩); (refine ⟨_, rfl, ?_⟩); (replace HB := A0_ (below_step bw_ hb)); ((try clear hb)); ((try clear hb2)); ((try clear hk)); ((try clear hi))
        refine hK.out _ _ ⟨((HB.out.cell (World.block_lt_of_cell? w _ hw584_0)).trans hw584_0), ((HB.out.cell (World.block_lt_of_cell? w _ hw584_1)).trans hw584_1), ((HB.out.cell (World.block_lt_of_cell? w _ hw585_0)).trans hw585_0), ((HB.out.cell (World.block_lt_of_cell? w _ hw585_1)).trans hw585_1)⟩ (fun hHeld => ?_)
        clear hK K; (refine nm_ (some 25) ?_); (refine on_ 9 (some 26) ?_); (refine dn_ ?_); (try go_wp2); go_ret; (exact ⟨er_, bx_⟩)
      ·(rw [if_neg c6] at H); (exact absurd H (by simp))
     ·(rw [if_neg c5] at H); (exact absurd H (by simp))
    ·(rw [if_neg c4] at H); (have c4b0 : decide (x5_1 < (l0.length : Int)) = false := decide_eq_false c4); clear c4; (obtain rfl := Option.some.inj H); go_wp2; go_ret; (exact ⟨er_, bx_⟩)
 ·(rw [if_neg c3] at H); (have c3b0 : ((l0.length : Int) == (l1.length : Int)) = false := beq_eq_false_iff_ne.mpr c3); (have c3b1 : ((l0.length : Int) != (l1.length : Int)) = true := bne_iff_ne.mpr c3); (have c3b2 : (l0.length == l1.length) = false := by first | simpa using c3 | (simp at c3 ⊢; omega)); (obtain rfl := Option.some.inj H); (go_enter Try.func31, Try.ntmps31); go_wp2; go_ret; (exact ⟨er_, bx_⟩)
end
section
attribute [local go_sem] max2_int min2_int max_two min_two max_three min_three max_four min_four
def laws_heldStageS.l0 : Nat → List (S98) → Int → Int → Option (Int)
  | 0, _, _, _ => none
  | k + 1, x0, x1, x5 => if x5 < (x0.length : Int) then (if 0 ≤ x5 then ((laws_heldInt64S.f k ((rd_T98 x0 x5).f0) x1).bind fun t648 => (if t648 < 0 then (some (-1)) else (if ((rd_T98 x0 x5).f1) = t648 then (laws_heldStageS.l0 k x0 (wrap64 (t648 + 1)) (wrap64 (x5 + 1))) else (some (-1))))) else (none)) else (some x1)
def laws_heldStageS.f (k : Nat) (l0 : List (S98)) (a1 : Int) : Option (Int) := laws_heldStageS.l0 k l0 a1 0
set_option maxHeartbeats 8000000 in
set_option maxRecDepth 100000 in
theorem laws_heldStageS.calls (k : Nat) (A0 : Option Addr) (c0 : Nat) (l0 : List (S98)) (a1 : Int) (r : Int) (w : World) (hr0 : Kd.C k98 w A0 l0.length l0) (hc0 : l0.length ≤ c0) (h : laws_heldStageS.f k l0 a1 = some r) :
    Calls Try.prog 42 #[.slice A0 l0.length c0, .int .i64 a1] w fun e w' => e = .returned (.int .i64 r) ∧ Drawn0 w w' := by
 (have HR0 := A0_ hr0); (have HC0 := A0_ hc0); clear hr0 hc0; (have H : (laws_heldStageS.l0 k l0 a1 0) = some r := h); clear h; (have H' := A0_ H); clear H; (go_enter Try.func42, Try.ntmps42); go_wp2
 go_loopg [1, 5] k (fun kq v1 v5 w' => ∃ (x1_1 : Int) (x5_1 : Int), v1 = .int .i64 x1_1 ∧ v5 = .int .i64 x5_1 ∧ Aside0 (laws_heldStageS.l0 kq l0 x1_1 x5_1 = some r) ∧ Aside0 (kq ≤ k) ∧ Drawn0 w w')
 case atStart => exact ⟨(a1), (0), (by first | rfl | (simp; done) | (simp [*]; done)), (by first | rfl | (simp; done) | (simp [*]; done)), H', ⟨Nat.le_refl _⟩, by repeat (first | exact Drawn0.refl _ | apply Drawn0.step)⟩
 case round =>
  clear H'; (try clear p2); (obtain ⟨x1_1, x5_1, rfl, rfl, HA, HK1, ⟨m1, rfl⟩⟩ := hrel)
  cases gk with
  | zero => exact absurd HA.out (by simp [laws_heldStageS.l0])
  | succ k1 =>
   (have H := HA.out); clear HA; (simp only [laws_heldStageS.l0] at H); (by_cases c3 : x5_1 < (l0.length : Int))
   ·(rw [if_pos c3] at H); (have c3b0 : decide (x5_1 < (l0.length : Int)) = true := decide_eq_true c3); clear c3; (by_cases c4 : 0 ≤ x5_1)
    ·(rw [if_pos c4] at H); (have c4b0 : decide (0 ≤ x5_1) = true := decide_eq_true c4); clear c4; (replace H := Option.bind_eq_some_iff.mp H); (obtain ⟨t648, A50, H⟩ := H); (try dsimp only at H); (have A5 := A0_ A50); clear A50; (have H0_ := A0_ H); clear H; (have p647 : 0 ≤ (x5_1 : Int) := of_decide_eq_true as_); (have q647 : x5_1 < (l0.length : Int) := of_decide_eq_true as_); (obtain ⟨ad647, A647_0, c647_0, e647, hx647_0, hx647_1, hl647_0, hi647_0⟩ := at_T98 HR0.out x5_1 p647 q647); (cases e647); (have HR647_0 := A0_ hi647_0); (have HC647_0 := A0_ hl647_0); clear hi647_0 hl647_0; (replace p647 := eq_true p647); (replace q647 := eq_true q647); (go_wp2_with (first | ((with_reducible refine gate_callee (f := 36) rfl ?_); refine goesL_ (some 18) rfl rfl Try.func36 (by kernel_rfl) rfl #[.slice A647_0 ((rd_T98 l0 x5_1).f0).length c647_0, .int .i64 x1_1] rfl (by (try simp only [List.map_toArray, List.map_cons, List.map_nil]); first | done | rfl | (simp only [List.length_drop, List.length_take]; rfl)) ?_; (with_reducible refine (laws_heldInt64S.calls k1 _ _ ((rd_T98 l0 x5_1).f0) x1_1 t648 _ ?side1 ?side2 A5.out).mono ?_); (case side1 => repeat (first | exact HR647_0.out | (with_reducible refine Kd.C_alloc ?_ _) | (with_reducible refine Kd.C_drewN ?_ _) | (with_reducible refine Kd.C_drew ?_))); (case side2 => exact HC647_0.out); rintro e w' ⟨rfl, ⟨nd, rfl⟩⟩; refine ⟨_, rfl, ?_⟩; refine Stop0.out ?_))); (refine Stop0.mk ?_); (have H := H0_.out); clear H0_; (by_cases c6 : t648 < 0)
     ·(rw [if_pos c6] at H); (have c6b0 : decide (t648 < 0) = true := decide_eq_true c6); clear c6; (obtain rfl := Option.some.inj H); go_wp2; go_ret; (exact ⟨by first | rfl | (simp; done) | (simp [*]; done), by repeat (first | exact Drawn0.refl _ | apply Drawn0.step)⟩)
     ·(rw [if_neg c6] at H); (have c6b0 : decide (t648 < 0) = false := decide_eq_false c6); clear c6; (by_cases c7 : ((rd_T98 l0 x5_1).f1) = t648)
      ·(rw [if_pos c7] at H); (have c7b0 : (((rd_T98 l0 x5_1).f1) == t648) = true := beq_iff_eq.mpr c7); (have c7b1 : (((rd_T98 l0 x5_1).f1) != t648) = false := bne_eq_false_iff_eq.mpr c7); clear c7; (have H' := A0_ H); clear H; (have p649 : 0 ≤ (x5_1 : Int) := of_decide_eq_true as_); (have q649 : x5_1 < (l0.length : Int) := of_decide_eq_true as_); (obtain ⟨ad649, A649_0, c649_0, e649, hx649_0, hx649_1, hl649_0, hi649_0⟩ := at_T98 HR0.out x5_1 p649 q649); (cases e649); (have HR649_0 := A0_ hi649_0); (have HC649_0 := A0_ hl649_0); clear hi649_0 hl649_0; (replace p649 := eq_true p649); (replace q649 := eq_true q649); go_wp2; (go_roundg k1)
       case measure => have := HK1.out; omega
       case rel => exact ⟨(wrap64 (t648 + 1)), (wrap64 (x5_1 + 1)), (by first | rfl | (simp; done) | (simp [*]; done)), (by first | rfl | (simp; done) | (simp [*]; done)), H', ⟨by have := HK1.out; omega⟩, by repeat (first | exact Drawn0.refl _ | apply Drawn0.step)⟩
      ·(rw [if_neg c7] at H); (have c7b0 : (((rd_T98 l0 x5_1).f1) == t648) = false := beq_eq_false_iff_ne.mpr c7); (have c7b1 : (((rd_T98 l0 x5_1).f1) != t648) = true := bne_iff_ne.mpr c7); (obtain rfl := Option.some.inj H); (have p649 : 0 ≤ (x5_1 : Int) := of_decide_eq_true as_); (have q649 : x5_1 < (l0.length : Int) := of_decide_eq_true as_); (obtain ⟨ad649, A649_0, c649_0, e649, hx649_0, hx649_1, hl649_0, hi649_0⟩ := at_T98 HR0.out x5_1 p649 q649); (cases e649); (have HR649_0 := A0_ hi649_0); (have HC649_0 := A0_ hl649_0); clear hi649_0 hl649_0; (replace p649 := eq_true p649); (replace q649 := eq_true q649); go_wp2; go_ret; (exact ⟨by first | rfl | (simp; done) | (simp [*]; done), by repeat (first | exact Drawn0.refl _ | apply Drawn0.step)⟩)
    ·(rw [if_neg c4] at H); (exact absurd H (by simp))
   ·(rw [if_neg c3] at H); (have c3b0 : decide (x5_1 < (l0.length : Int)) = false := decide_eq_false c3); clear c3; (obtain rfl := Option.some.inj H); go_wp2; go_ret; (exact ⟨by first | rfl | (simp; done) | (simp [*]; done), by repeat (first | exact Drawn0.refl _ | apply Drawn0.step)⟩)
end
abbrev Ig := S98
theorem eqStageS_ev (l : List Ig) (h : SzOk (l.map (·.f0))) : Ev (fun k => laws_eqStageS.f k l l) true := by
 have h1 := h.len
 rw [List.length_map] at h1
 unfold laws_eqStageS.f
 simp only [if_true]
 refine ev_at l.length (fun (_ : Unit) _ => True) true (fun _ i k => laws_eqStageS.l0 k l l i) (fun s hi => ?_) (fun s j hj hi => ?_) () trivial
 ·exact Ev.step (f := fun _ => some true) (fun k => by simp only [laws_eqStageS.l0]; rw [if_neg (by omega)]) (Ev.now _)
 ·have hg : rd_T98 l (j : Int) = l[j] := by unfold rd_T98; exact getD_nat l _ j hj
  refine ⟨(), trivial, fun h2 => Ev.succ ?_⟩
  simp only [laws_eqStageS.l0, laws_eqStage.f, show (j : Int) < (l.length : Int) from by omega, show (0 : Int) ≤ (j : Int) from by omega, if_true, hg, wrap_succ j (by omega)]
  refine Ev.bind (a := true) (Ev.bind (eqInt64S_ev l[j].f0 (h.each _ (List.mem_map.2 ⟨_, List.getElem_mem hj, rfl⟩))) (by simpa using Ev.now true)) ?_
  simpa using h2
def tG : List Ig → Int
 | [] => 0
 | s :: ss => (s.f0.length : Int) + 1 + tG ss
theorem tG_nn : ∀ l, 0 ≤ tG l
 | [] => Int.le_refl _
 | s :: ss => by have := tG_nn ss; unfold tG; omega
theorem tG_app : ∀ a b : List Ig, tG (a ++ b) = tG a + tG b
 | [], b => by simp [tG]
 | s :: ss, b => by
  have h1 : tG (s :: (ss ++ b)) = (s.f0.length : Int) + 1 + tG (ss ++ b) := rfl
  have h2 : tG (s :: ss) = (s.f0.length : Int) + 1 + tG ss := rfl
  rw [List.cons_append, h1, h2, tG_app ss b]
  omega
theorem tG_next (l : List Ig) (i : Nat) (h : i < l.length) : tG (l.take (i + 1)) = tG (l.take i) + (l[i].f0.length : Int) + 1 := by
 rw [List.take_succ_eq_append_getElem h, tG_app]
 have h1 : tG [l[i]] = (l[i].f0.length : Int) + 1 + 0 := rfl
 omega
theorem tG_le (l : List Ig) (i : Nat) : tG (l.take i) ≤ tG l ∧ 0 ≤ tG (l.take i) := by
 have h := congrArg tG (List.take_append_drop i l)
 rw [tG_app] at h
 have := tG_nn (l.take i)
 have := tG_nn (l.drop i)
 omega
theorem tG_eq : ∀ l : List Ig, tG l = tot2 (l.map (·.f0)) + (l.length : Int)
 | [] => rfl
 | s :: ss => by
  have h1 : tG (s :: ss) = (s.f0.length : Int) + 1 + tG ss := rfl
  rw [List.map_cons, tot2_cons, h1, tG_eq ss, List.length_cons]
  omega
def marksG : Int → List Ig → List Ig
 | _, [] => []
 | a, s :: ss => ⟨ints a s.f0.length, a + (s.f0.length : Int)⟩ :: marksG (a + (s.f0.length : Int) + 1) ss
theorem marksG_len : ∀ (l : List Ig) (a : Int), (marksG a l).length = l.length
 | [], _ => rfl
 | s :: ss, a => by simp [marksG, marksG_len ss]
theorem marksG_at : ∀ (l : List Ig) (a : Int) (i : Nat) (h : i < l.length), (marksG a l)[i]? = some ⟨ints (a + tG (l.take i)) l[i].f0.length, a + tG (l.take i) + (l[i].f0.length : Int)⟩
 | s :: ss, a, 0, h => by simp [marksG, tG]
 | s :: ss, a, i + 1, h => by
  simp only [marksG, List.getElem?_cons_succ, List.getElem_cons_succ, List.take_succ_cons]
  rw [marksG_at ss _ i (by simpa using h), show tG (s :: ss.take i) = (s.f0.length : Int) + 1 + tG (ss.take i) from rfl, show a + (s.f0.length : Int) + 1 + tG (ss.take i) = a + ((s.f0.length : Int) + 1 + tG (ss.take i)) by omega]
theorem heldStageS_ev (l : List Ig) (a : Int) (h0 : 0 ≤ a) (h1 : a + tG l ≤ 1000000000000) (hl : l.length ≤ 1048576) (hr : ∀ s ∈ l, s.f0.length ≤ 1048576) : Ev (fun k => laws_heldStageS.f k (marksG a l) a) (a + tG l) := by
 unfold laws_heldStageS.f
 refine ev_at l.length (fun (s : Int) j => s = a + tG (l.take j)) (a + tG l) (fun s i k => laws_heldStageS.l0 k (marksG a l) s i) (fun s hi => ?_) (fun s j hj hi => ?_) a (by simp [tG])
 ·refine Ev.step (f := fun _ => some s) (fun k => by simp only [laws_heldStageS.l0]; rw [if_neg (by rw [marksG_len]; omega)]) ?_
  rw [hi, List.take_length]
  exact Ev.now _
 ·have hle := tG_le l j
  have hle2 := tG_le l (j + 1)
  have hnx := tG_next l j hj
  have hrl := hr _ (List.getElem_mem hj)
  have hg : rd_T98 (marksG a l) (j : Int) = ⟨ints s l[j].f0.length, s + (l[j].f0.length : Int)⟩ := by
   unfold rd_T98
   rw [Int.toNat_natCast, List.getD_eq_getElem?_getD, marksG_at l a j hj, ← hi]
   rfl
  refine ⟨s + (l[j].f0.length : Int) + 1, by omega, fun h2 => Ev.succ ?_⟩
  have hwl : wrap64 (s + (l[j].f0.length : Int) + 1) = s + (l[j].f0.length : Int) + 1 := by unfold wrap64; omega
  simp only [laws_heldStageS.l0, show (j : Int) < ((marksG a l).length : Int) from by rw [marksG_len]; omega, show (0 : Int) ≤ (j : Int) from by omega, if_true, hg, wrap_succ j (by omega)]
  refine Ev.bind (heldInts_ev' s l[j].f0.length (by omega) (by omega)) ?_
  simp only [show ¬ (s + (l[j].f0.length : Int)) < 0 from by omega, if_false, if_true, hwl]
  exact h2
set_option maxHeartbeats 2000000 in
set_option maxRecDepth 100000 in
theorem laws_markStageS.calls2 (rows : List Ig) (fp : Nat → Prop) (u : Value) (a : Int) (w0 w : World) (hB : Below w0.heap.size w0 w) (hS : Kd.S k98 98 w w0.heap.size fp u rows) (h0 : 0 ≤ a) (h1 : a + tG rows ≤ 1000000000000) (hl : rows.length ≤ 1048576) (hr : ∀ r ∈ rows, r.f0.length ≤ 1048576) :
  Calls Try.prog 39 #[u, .int .i64 a] w fun e w' => e = .returned (.int .i64 (a + tG rows)) ∧ Kd.S k98 98 w' w0.heap.size (fun k => fp k ∨ w.heap.size ≤ k) u (marksG a rows) ∧ Below w0.heap.size w0 w' ∧ Kept w w' fp := by
 have hu98 := Try.underlying98
 obtain ⟨A, c, rfl⟩ := Kd.S_slice hS
 have HS := A0_ (Kd.S_mono (ok' := fun k => fp k ∨ w.heap.size ≤ k) hS (fun k hk => .inl hk))
 have HB := A0_ hB
 have HK := A0_ (Kept.refl w fp)
 have HA := A0_ (And.intro h0 h1)
 have HL := A0_ hl
 have HR := A0_ hr
 clear hS hB h0 h1 hl hr
 go_enter Try.func39, Try.ntmps39
 go_wp2
 go_loopg [1, 5] (rows.length + 1) (fun kq v1 v5 w' => ∃ (i : Nat) (rs : List Ig), v5 = .int .i64 (i : Int) ∧ v1 = .int .i64 (a + tG (rows.take i)) ∧ Aside0 (i ≤ rows.length ∧ kq + i = rows.length + 1 ∧ rs.length = rows.length ∧ (∀ j, i ≤ j → rs[j]? = rows[j]?) ∧ ∀ j, j < i → rs[j]? = (marksG a rows)[j]?) ∧ Aside0 (Kd.S k98 98 w' w0.heap.size (fun k => fp k ∨ w.heap.size ≤ k) (.slice A rows.length c) rs) ∧ Aside0 (Below w0.heap.size w0 w') ∧ Aside0 (Kept w w' fp))
 case atStart => exact ⟨0, rows, rfl, by simp [tG], ⟨by omega, by omega, rfl, fun _ _ => rfl, fun j hj => by omega⟩, HS, HB, HK⟩
 case round =>
  clear HS HB HK
  obtain ⟨i, rs, rfl, rfl, HX, HS, HB, HK⟩ := hrel
  obtain ⟨k1, rfl⟩ : ∃ k1, gk = k1 + 1 := ⟨gk - 1, by have := HX.out; omega⟩
  by_cases ci : i < rows.length
  ·have ci0 : decide (i < rows.length) = true := decide_eq_true ci
   have ci1 := eq_true ci
   have hrl := HX.out.2.2.1
   obtain ⟨g, cap, e, hgb, hgl, _⟩ := Kd.S_form HS.out (by omega)
   rw [hrl] at e
   injection e with e1 e2 e3
   subst e1 e3
   obtain ⟨oki, cc, hcl, hM, hcc, hfr, hoki, hH⟩ := Kd.S_elem HS.out ⟨[], 0⟩ (i : Int) (by omega) (by omega)
   have hget : rs.getD (i : Int).toNat ⟨[], 0⟩ = rows[i] := by
    rw [Int.toNat_natCast, List.getD_eq_getElem?_getD, HX.out.2.2.2.1 i (Nat.le_refl i), List.getElem?_eq_getElem ci]; rfl
   rw [hget] at hM
   obtain ⟨v, rfl, hRv⟩ := k98_openM hM
   obtain ⟨A2, c2, rfl⟩ := Kd.R_slice hRv
   have hcell := hcc 0 _ rfl
   have ez : (i : Int).toNat * k98.sz + 0 = i * 2 := by show (i : Int).toNat * 2 + 0 = i * 2; omega
   rw [ez] at hcell
   obtain ⟨r, hrr⟩ : ∃ r, r = rows[i] := ⟨_, rfl⟩
   have htn := tG_next rows i ci
   rw [← hrr] at hRv hcell htn hH
   have HTN := A0_ htn
   have HMJ := A0_ (show (marksG a rows)[i]? = some ⟨ints (a + tG (rows.take i)) r.f0.length, a + tG (rows.take i) + (r.f0.length : Int)⟩ by rw [hrr]; exact marksG_at rows a i ci)
   have hrlen : r.f0.length ≤ 1048576 := hrr ▸ HR.out _ (List.getElem_mem ci)
   have htl := tG_le rows i
   have htl2 := tG_le rows (i + 1)
   obtain ⟨km, hkm⟩ := (markInt64S_ev r.f0 (a + tG (rows.take i)) hrlen (by have := HA.out; omega) (by have := HA.out; omega)).rounds
   have HWK := A0_ (show wrap64 (a + tG (rows.take i) + (r.f0.length : Int) + 1) = a + tG (rows.take (i + 1)) by have := HA.out; unfold wrap64; omega)
   have HKM := A0_ hkm
   have HRV := A0_ hRv
   have HWI := A0_ (wrap_succ i (by have := HL.out; omega))
   have HH := A0_ hH
   have HOK := A0_ hoki
   have HC := A0_ ci
   have HGB := A0_ hgb
   have HRL := A0_ hrl
   have HSO := A0_ (show fp g ∨ w.heap.size ≤ g from (Kd.S_R HS.out).1 g rfl)
   have p0 : ((i : Int) < (rows.length : Int)) = True := eq_true (by omega)
   have p1 : (0 ≤ (i : Int)) = True := eq_true (by omega)
   clear hkm hRv hH hoki hcl hcc hfr hget hrr htn htl htl2 hrlen ci hM ez hgb hgl hrl
   go_wp2_with (first
    | (go_at_call 35; go_loud (refine (laws_markInt64S.calls km oki _ r.f0 (a + tG (rows.take i)) _ _ w0 _ HB.out HRV.out HKM.out).mono ?_; rintro e w1 ⟨rfl, ho, hb, hk⟩; have hw_ := Kd.H_widen HH.out; have hk2_ := Kd.H_kept hw_ hk (fun k _ hn hs => hn (.inl hs)); have hs_ := Kd.H_back hk2_ (x' := (⟨ints (a + tG (rows.take i)) r.f0.length, r.f1⟩ : Ig)) (k98_mkM _ _ _ _ (Kd.R_mono (ok' := fun k => oki k ∨ (fp k ∨ w.heap.size ≤ k) ∧ wr.heap.size ≤ k) ho (fun k hk => hk.elim .inl (fun h => .inr ⟨.inr (Nat.le_trans HK.out.1 h), h⟩)))) (fun _ h => h); rw [Int.toNat_natCast] at hs_; have HS1 := A0_ hs_; have HB1 := A0_ hb; have HK1 := A0_ (Kept.then_ HK.out hk (fun k hk => (HOK.out k hk).1)); clear hs_ hk2_ hw_ ho hb hk hcell; obtain ⟨oki2, cc2, hcl2, hM2, hcc2, hfr2, hoki2, hH2⟩ := Kd.S_elem HS1.out ⟨[], 0⟩ (i : Int) (by omega) (by have := HC.out; omega); rw [Int.toNat_natCast, List.getD_eq_getElem?_getD, List.getElem?_set_self (by rw [HRL.out]; exact HC.out)] at hM2; obtain ⟨v2, rfl, hRv2⟩ := k98_openM hM2; have hcell1 := hcc2 1 _ rfl; have hfro1 := hfr2 1; rw [show (i : Int).toNat * k98.sz + 1 = i * 2 + 1 from by show (i : Int).toNat * 2 + 1 = i * 2 + 1; omega] at hcell1 hfro1; have HP := A0_ (Kd.S_seg0 hH2 (by omega) (by have := HC.out; omega) (seg := [.int .i64 (a + tG (rows.take i) + (r.f0.length : Int))]) (j := 1) (show 2 ≤ 2 from by decide) (x' := (⟨ints (a + tG (rows.take i)) r.f0.length, a + tG (rows.take i) + (r.f0.length : Int)⟩ : Ig)) (k98_mkM _ _ _ _ hRv2) (fun _ h => h)); clear hcl2 hM2 hcc2 hfr2 hoki2 hH2 hRv2))
    | ((with_reducible refine gate_store (t := 2) (p := 23) rfl ?_); refine store_event (t := 2) (p := 23) (v := ?vo) (w1 := (w1.setCell ⟨g, i * 2 + 1, none⟩ (.int .i64 (a + tG (rows.take i) + (r.f0.length : Int))))) ?hg ?ho ?hn ?hr ?_; (case ho => rfl); (case hg => rfl); (case hn => rfl); (case hr => first | (go_simp; done) | (go_simp; rfl)); intro w2 hw; have hg_ : w1.grownBy w2 (some g) := (by rw [hw]; exact HP.out.2); have HS2 := A0_ (show Kd.S k98 98 w2 w0.heap.size (fun k => fp k ∨ w.heap.size ≤ k) (.slice (some ⟨g, 0, none⟩) rows.length c) _ from (by rw [hw]; exact HP.out.1)); have HB2 := A0_ (show Below w0.heap.size w0 w2 from (by rw [hw]; exact below_set HB1.out HGB.out)); have HK2 := A0_ (Kept.of_grown hg_ HK1.out (fun k e_ => by injection e_ with e_; rw [← e_]; exact HSO.out)); clear hg_ hw hcell1 hfro1 HP))
   go_roundg k1
   case measure => omega
   case rel =>
    rw [HWI.out]
    have hs2 := HS2.out
    rw [Int.toNat_natCast, List.set_set] at hs2
    refine ⟨i + 1, rs.set i ⟨ints (a + tG (rows.take i)) r.f0.length, a + tG (rows.take i) + (r.f0.length : Int)⟩, rfl, by rw [HWK.out], ⟨by have := HC.out; omega, by have := HX.out; omega, by rw [List.length_set]; exact HX.out.2.2.1, fun j hj => by rw [List.getElem?_set_ne (by omega)]; exact HX.out.2.2.2.1 j (by omega), fun j hj => by
     by_cases e : j = i
     ·subst e; rw [List.getElem?_set_self (by rw [HX.out.2.2.1]; exact HC.out), HMJ.out]
     ·rw [List.getElem?_set_ne (Ne.symm e)]; exact HX.out.2.2.2.2 j (by omega)⟩, ⟨hs2⟩, HB2, HK2⟩
  ·have ci0 : decide (i < rows.length) = false := decide_eq_false ci
   have hi : i = rows.length := by have := HX.out; omega
   have HI := A0_ hi
   clear ci hi
   go_wp2
   go_ret
   have e : rs = marksG a rows := List.ext_getElem? (fun j => by
    by_cases c : j < rows.length
    ·exact HX.out.2.2.2.2 j (by rw [HI.out]; exact c)
    ·rw [List.getElem?_eq_none (by rw [HX.out.2.2.1]; omega), List.getElem?_eq_none (by rw [marksG_len]; omega)])
   exact ⟨by rw [HI.out, List.take_length]; rfl, e ▸ HS.out, HB.out, HK.out⟩
theorem tG_small : ∀ l : List Ig, (∀ s ∈ l, s.f0.length ≤ 1200) → tG l ≤ 1201 * (l.length : Int)
 | [], _ => by simp [tG]
 | s :: ss, h => by
  have h1 : tG (s :: ss) = (s.f0.length : Int) + 1 + tG ss := rfl
  have h2 := tG_small ss (fun q hq => h q (List.mem_cons_of_mem _ hq))
  have h3 := h s List.mem_cons_self
  rw [h1, List.length_cons]
  omega
theorem out_small {x : List Ig} (h : OutOk x) : SzOk (x.map (·.f0)) ∧ tG x ≤ 1000000 := by
 have h1 := tG_small x h.each
 have h2 := h.len
 have h3 := tG_eq x
 refine ⟨⟨by rw [List.length_map]; omega, fun r hr => ?_, by omega⟩, by omega⟩
 obtain ⟨s, hs, rfl⟩ := List.mem_map.1 hr
 exact Nat.le_trans (h.each s hs) (by decide)
def lawGr.T10 : Bool × List (List Nat × List Nat) := (true, [([], []), ([], []), ([1], [1]), ([0, 2, 2], [0, 2]), ([3], [3])])
def lawGr.B10 : List Nat := [0, 0, 2, 7, 15]
theorem lawGr.tab10 : rtab .any (opsOf Try.f9 10) = lawGr.T10 := by kernel_rfl
theorem lawGr.bits10 : waitsOk lawGr.T10.2 lawGr.B10 = true := by kernel_rfl
set_option maxHeartbeats 8000000 in
set_option maxRecDepth 100000 in
theorem lawGr_good (A0 : Option Addr) (c0 : Nat) (l : List (List Lb)) (w : World) (hr : Kd.C (Kd.slice 71 k71) w A0 l.length l) (hc : l.length ≤ c0) (KK : Nat) (s : Int) (hsz : laws_szAssembly.f KK l 1048576 = some s) (hpos : ¬ s < 0) (P : List (List Cb)) (hz : SzOk P) (hto : laws_toAssembly.f KK l = some P) (heq : laws_eqAssembly.f KK P P = some true) (x : List Ig) (x1 : Int) (hx : greedyR P = (x, x1)) (hxo : OutOk x) (hei : laws_eqStageS.f KK x x = some true) (hhd : laws_heldStageS.f KK (marksG 1 x) 1 = some (1 + tG x)) (htg : tG x ≤ 1000000) :
  Calls Try.prog 9 #[.agg #[.slice A0 l.length c0]] w fun e w' => e = .returned (.bool true) ∧ Below w.heap.size w w' := by
 have hu24 := Try.underlying24
 have hu32 := Try.underlying32
 have HR := A0_ hr
 have HC := A0_ hc
 have HSZ := A0_ hsz
 have HTO1 := A0_ hto
 have HTO2 := A0_ hto
 have HTO3 := A0_ hto
 have HTO4 := A0_ hto
 have HEQ := A0_ heq
 have HEI1 := A0_ hei
 have HEI2 := A0_ hei
 have HEI3 := A0_ hei
 have HXO := A0_ hxo
 have HHD1 := A0_ hhd
 have HHD2 := A0_ hhd
 have HZ := A0_ hz
 have hp0 : decide (s < 0) = false := decide_eq_false hpos
 have ht := t3_le P P.length
 have hp1 : decide (1 + t3 P < 0) = false := decide_eq_false (by rw [List.take_length] at ht; omega)
 have htn := tG_nn x
 have hp2 : decide (1 + tG x < 0) = false := decide_eq_false (by omega)
 have HTG := A0_ (show 1 + tG x ≤ 1000000000000 by omega)
 have HT3 := A0_ (show 1 + t3 P ≤ 1000000000000 by have := hz.tot; unfold t3; omega)
 have HS := A0_ (Sp.start w)
 have HSP := A0_ (fun A c w1 h1 h2 => sGreedy_calls A c P w1 h1 h2 hz)
 have HIM1 := A0_ (fun A c w1 h1 h2 => iGreedy_calls A c P w1 h1 h2 hz)
 rw [hx] at HSP HIM1
 have HIM2 := HIM1
 clear hr hc hsz hto heq hz hx hei hhd ht hpos hxo htn htg
 go_enter Try.func9, Try.ntmps9
 go_wp2_with (first
  | ((with_reducible refine gate_dst (N := 1) rfl ?_); go_loud (refine be_ (N := 1) (cs := #[.slice A0 l.length c0]) (t := 24) ?_; intro gb hgb_ wb_ hcb_ hbb_; replace HS := A0_ (Sp.boxed HS.out hgb_ hcb_ hbb_); clear hgb_ hcb_ hbb_; have hb0 := (cl_ HS 0 0 rfl).trans rfl))
  | (go_at_call 10; go_loud (refine (laws_szAssembly.calls KK A0 c0 l 1048576 s _ (Kd.C_below HR.out HS.out.below) HC.out HSZ.out).mono ?_; rintro e wc_ ⟨rfl, hb_⟩; replace HS := A0_ (Sp.far HS.out hb_); clear hb_ hb0 HSZ; have hb0 := (cl_ HS 0 0 rfl).trans rfl))
  | (go_at_call 13; go_loud (refine (laws_toAssembly.calls KK A0 c0 l P _ (Kd.C_below HR.out HS.out.below) HC.out HTO1.out).mono ?_; rintro e wc_ ⟨v_, rfl, hs_, hb_⟩; replace HS := A0_ (Sp.madeS HS.out hb_ hs_); clear hb_ hs_ hb0 HTO1; obtain ⟨A1, c1, ev_⟩ := Sp.sliceS HS.out (i := 0) rfl; subst ev_))
  | (go_at_call 40; go_loud (refine (HSP.out A1 c1 _ (Sp.readsS HS.out (i := 0) rfl).2.2 (Sp.readsS HS.out (i := 0) rfl).2.1).mono ?_; rintro e wc_ ⟨v_, rfl, hr_, hb_⟩; replace HS := A0_ (Sp.madeS HS.out hb_ hr_); clear hb_ hr_ HSP; obtain ⟨A2, c2, ev_⟩ := Sp.sliceS HS.out (i := 0) rfl; subst ev_; have hb0 := (cl_ HS 2 0 rfl).trans rfl))
  | (go_at_call 13; go_loud (refine (laws_toAssembly.calls KK A0 c0 l P _ (Kd.C_below HR.out HS.out.below) HC.out HTO2.out).mono ?_; rintro e wc_ ⟨v_, rfl, hs_, hb_⟩; replace HS := A0_ (Sp.madeS HS.out hb_ hs_); clear hb_ hs_ hb0 HTO2; obtain ⟨A3, c3, ev_⟩ := Sp.sliceS HS.out (i := 0) rfl; subst ev_))
  | (go_at_call 41; go_loud (obtain ⟨gx, hg_⟩ : ∃ g_, g_ = (wc_).heap.size := ⟨_, rfl⟩; obtain ⟨wx, hw_⟩ : ∃ w_, w_ = (wc_).alloc (.cells #[.slice A3 P.length c3] 32) := ⟨_, rfl⟩; (try rw [← hw_]); (try rw [← hg_]); have HS_ := A0_ (Sp.box HS.out #[.slice A3 P.length c3] 32); rw [← hw_, ← hg_] at HS_; clear HS; have HS := HS_; clear HS_ hw_ hg_; refine (HIM1.out A3 c3 _ (Sp.readsS HS.out (i := 1) rfl).2.2 (Sp.readsS HS.out (i := 1) rfl).2.1).mono ?_; rintro e wi_ ⟨v_, rfl, hr_, hb_⟩; replace HS := A0_ (Sp.madeS HS.out hb_ hr_); clear hb_ hr_ HIM1; obtain ⟨A4, c4, ev_⟩ := Sp.sliceS HS.out (i := 0) rfl; subst ev_))
  | (go_at_call 31; go_loud (refine (laws_eqStageS.calls KK A4 c4 x A2 c2 x true _ (Sp.readsS HS.out (i := 0) rfl).2.2 (Sp.readsS HS.out (i := 0) rfl).2.1 (Sp.readsS HS.out (i := 3) rfl).2.2 (Sp.readsS HS.out (i := 3) rfl).2.1 HEI1.out).mono ?_; rintro e wc_ ⟨rfl, hd_⟩; replace HS := A0_ (Sp.far HS.out hd_); clear hd_ HEI1)))
 replace HS := A0_ (show Sp w ([Res.rowS kG 98 w.heap.size (.slice A4 x.length c4) x, Res.blk gx #[.slice A3 P.length c3] 32, Res.rowS kP 34 w.heap.size (.slice A3 P.length c3) P, Res.rowS kG 98 w.heap.size (.slice A2 x.length c2) x, Res.rowS kP 34 w.heap.size (.slice A1 P.length c1) P, Res.blk gb #[.slice A0 l.length c0] 24] ++ ([] : List Res)) wc_.drew from Sp.drew HS.out)
 refine start_ (n := 5) (S := fun w' => w'.cell? ⟨gx, 0, none⟩ = some (.slice A3 P.length c3) ∧ w'.cell? ⟨gb, 0, none⟩ = some (.slice A0 l.length c0)) (ds := []) #[false, false, false, false, false] (by kernel_rfl) rfl rfl (⟨(cl_ HS 1 0 rfl).trans rfl, (cl_ HS 5 0 rfl).trans rfl⟩) (fun hHeld => ?_)
 refine with_tabW lawGr.tab10 lawGr.bits10 (fun HT_ HW_ => ?_)
 generalize wc_.drew = wD at HS hHeld ⊢
 refine tk_ 0 (some 41) ?_
 refine tk_ 1 (some 42) ?_
 refine o1_ 2 (some 43) (fun K hK => ?_)
 refine gs_ Try.func13 #[.agg #[.slice A0 l.length c0]] ?_
 refine (laws_toAssembly.calls KK A0 c0 l P _ (Kd.C_below HR.out HS.out.below) HC.out HTO3.out).mono ?_
 rintro e w7 ⟨v7, rfl, hs_, hb_⟩
 refine ⟨_, rfl, ?_⟩
 replace HS := A0_ (Sp.madeS HS.out hb_ hs_)
 clear hb_ hs_
 obtain ⟨A7, c7, ev_⟩ := Sp.sliceS HS.out (i := 0) rfl
 subst ev_
 refine hK.out _ _ (⟨(cl_ HS 2 0 rfl).trans rfl, (cl_ HS 6 0 rfl).trans rfl⟩) (fun hHeld => ?_)
 clear hK K
 refine nm_ (some 43) ?_
 refine o1_ 3 (some 44) (fun K hK => ?_)
 refine gs_ Try.func17 #[.agg #[.slice A3 P.length c3], .agg #[.slice A7 P.length c7]] ?_
 refine (laws_eqAssembly.calls KK A3 c3 P A7 c7 P true _ (Sp.readsS HS.out (i := 3) rfl).2.2 (Sp.readsS HS.out (i := 3) rfl).2.1 (Sp.readsS HS.out (i := 0) rfl).2.2 (Sp.readsS HS.out (i := 0) rfl).2.1 HEQ.out).mono ?_
 rintro e w8 ⟨rfl, hb_⟩
 refine ⟨_, rfl, ?_⟩
 replace HS := A0_ (Sp.far HS.out hb_)
 clear hb_
 refine hK.out _ _ (⟨(cl_ HS 2 0 rfl).trans rfl, (cl_ HS 6 0 rfl).trans rfl⟩) (fun hHeld => ?_)
 clear hK K
 refine nm_ (some 44) ?_
 refine on_ 4 (some 45) ?_
 refine dn_ ?_
 replace HS := A0_ (Sp.arr (pre := [Res.rowS kP 34 w.heap.size (.slice A7 P.length c7) P, Res.rowS kG 98 w.heap.size (.slice A4 x.length c4) x, Res.blk gx #[.slice A3 P.length c3] 32, Res.rowS kP 34 w.heap.size (.slice A3 P.length c3) P, Res.rowS kG 98 w.heap.size (.slice A2 x.length c2) x, Res.rowS kP 34 w.heap.size (.slice A1 P.length c1) P, Res.blk gb #[.slice A0 l.length c0] 24]) (pre' := [Res.rowS kG 98 w.heap.size (.slice A4 x.length c4) x, Res.rowS kP 34 w.heap.size (.slice A3 P.length c3) P, Res.rowS kG 98 w.heap.size (.slice A2 x.length c2) x, Res.blk gb #[.slice A0 l.length c0] 24, Res.blk gx #[.slice A3 P.length c3] 32, Res.rowS kP 34 w.heap.size (.slice A1 P.length c1) P, Res.rowS kP 34 w.heap.size (.slice A7 P.length c7) P]) (rest := ([] : List Res)) [1, 3, 4, 6, 2, 5, 0] HS.out rfl rfl)
 have hx0 := (cl_ HS 4 0 rfl).trans rfl
 go_wp2_with (first
  | (go_at_call 19; obtain ⟨fp_, hs_, hc_⟩ := Sp.markS HS.out (i := 1) rfl; refine (laws_markAssembly.calls2 P fp_ A3 P.length c3 1 w _ HS.out.below hs_ (by decide) HT3.out HZ.out.len HZ.out.each).mono ?_; rintro e w9 ⟨rfl, rows', hs2, hb, hk⟩; replace HS := A0_ (hc_ _ _ hs2 hb hk); clear hs_ hc_ hs2 hb hk hx0)
  | (go_at_call 31; go_loud (refine (laws_eqStageS.calls KK A4 c4 x A2 c2 x true _ (Sp.readsS HS.out (i := 0) rfl).2.2 (Sp.readsS HS.out (i := 0) rfl).2.1 (Sp.readsS HS.out (i := 2) rfl).2.2 (Sp.readsS HS.out (i := 2) rfl).2.1 HEI2.out).mono ?_; rintro e wc_ ⟨rfl, hd_⟩; replace HS := A0_ (Sp.far HS.out hd_); clear hd_ HEI2))
  | (go_at_call 39; go_loud (obtain ⟨fp_, hs_, hc_⟩ := Sp.markS HS.out (i := 0) rfl; refine (laws_markStageS.calls2 x fp_ _ 1 w _ HS.out.below hs_ (by decide) HTG.out (by have := HXO.out.len; omega) (fun r hr => by have := HXO.out.each r hr; omega)).mono ?_; rintro e w11 ⟨rfl, hs2, hb, hk⟩; replace HS := A0_ (hc_ _ _ hs2 hb hk); clear hs_ hc_ hs2 hb hk))
  | (go_at_call 42; have hh_ := laws_heldStageS.calls KK A4 c4 (marksG 1 x) 1 (1 + tG x) _ (Sp.readsS HS.out (i := 0) rfl).2.2 (by rw [marksG_len]; exact (Sp.readsS HS.out (i := 0) rfl).2.1) HHD1.out; rw [marksG_len] at hh_; refine hh_.mono ?_; rintro e w12 ⟨rfl, hd_⟩; replace HS := A0_ (Sp.far HS.out hd_.below); clear hd_ hh_ HHD1; have hb0 := (cl_ HS 3 0 rfl).trans rfl)
  | (go_at_call 13; go_loud (refine (laws_toAssembly.calls KK A0 c0 l P _ (Kd.C_below HR.out HS.out.below) HC.out HTO4.out).mono ?_; rintro e wc_ ⟨v_, rfl, hs_, hb_⟩; replace HS := A0_ (Sp.madeS HS.out hb_ hs_); clear hb_ hs_ hb0 HTO4; obtain ⟨A13, c13, ev_⟩ := Sp.sliceS HS.out (i := 0) rfl; subst ev_))
  | (go_at_call 41; go_loud (refine (HIM2.out A13 c13 _ (Sp.readsS HS.out (i := 0) rfl).2.2 (Sp.readsS HS.out (i := 0) rfl).2.1).mono ?_; rintro e wc_ ⟨v_, rfl, hr_, hb_⟩; replace HS := A0_ (Sp.madeS HS.out hb_ hr_); clear hb_ hr_ HIM2; obtain ⟨A14, c14, ev_⟩ := Sp.sliceS HS.out (i := 0) rfl; subst ev_))
  | (go_at_call 31; go_loud (refine (laws_eqStageS.calls KK A14 c14 x A2 c2 x true _ (Sp.readsS HS.out (i := 0) rfl).2.2 (Sp.readsS HS.out (i := 0) rfl).2.1 (Sp.readsS HS.out (i := 4) rfl).2.2 (Sp.readsS HS.out (i := 4) rfl).2.1 HEI3.out).mono ?_; rintro e wc_ ⟨rfl, hd_⟩; replace HS := A0_ (Sp.far HS.out hd_); clear hd_ HEI3))
  | (go_at_call 42; have hh_ := laws_heldStageS.calls KK A4 c4 (marksG 1 x) 1 (1 + tG x) _ (Sp.readsS HS.out (i := 2) rfl).2.2 (by rw [marksG_len]; exact (Sp.readsS HS.out (i := 2) rfl).2.1) HHD2.out; rw [marksG_len] at hh_; refine hh_.mono ?_; rintro e w16 ⟨rfl, hd_⟩; replace HS := A0_ (Sp.far HS.out hd_.below); clear hd_ hh_ HHD2))
 go_ret
 exact ⟨rfl, HS.out.below⟩
set_option maxHeartbeats 1000000 in
set_option maxRecDepth 100000 in
theorem lawGr_bad (A0 : Option Addr) (c0 : Nat) (l : List (List Lb)) (w : World) (hr : Kd.C (Kd.slice 71 k71) w A0 l.length l) (hc : l.length ≤ c0) (KK : Nat) (hsz : laws_szAssembly.f KK l 1048576 = some (-1)) :
  Calls Try.prog 9 #[.agg #[.slice A0 l.length c0]] w fun e w' => e = .returned (.bool true) ∧ Below w.heap.size w w' := by
 have hu24 := Try.underlying24
 have HR := A0_ hr
 have HC := A0_ hc
 have HSZ := A0_ hsz
 have HS := A0_ (Sp.start w)
 clear hr hc hsz
 go_enter Try.func9, Try.ntmps9
 go_wp2_with (first
  | ((with_reducible refine gate_dst (N := 1) rfl ?_); go_loud (refine be_ (N := 1) (cs := #[.slice A0 l.length c0]) (t := 24) ?_; intro gb hgb_ wb_ hcb_ hbb_; replace HS := A0_ (Sp.boxed HS.out hgb_ hcb_ hbb_); clear hgb_ hcb_ hbb_; have hb0 := (cl_ HS 0 0 rfl).trans rfl))
  | (go_at_call 10; go_loud (refine (laws_szAssembly.calls KK A0 c0 l 1048576 (-1) _ (Kd.C_below HR.out HS.out.below) HC.out HSZ.out).mono ?_; rintro e wc_ ⟨rfl, hb_⟩; replace HS := A0_ (Sp.far HS.out hb_); clear hb_ hb0 HSZ)))
 go_ret
 exact ⟨rfl, HS.out.below⟩
open Classical in
noncomputable def laws_FnExactGreedyStages.f (k : Nat) (l : List (List Lb)) : Option Bool := if l.length ≤ maxLen ∧ ∀ r ∈ l, r.length ≤ maxLen then some true else none
theorem laws_FnExactGreedyStages.calls (k : Nat) (A0_0 : Option Addr) (c0_0 : Nat) (l0_0 : List (List Lb)) (r : Bool) (w : World) (hr0_0 : Kd.C (Kd.slice 71 k71) w A0_0 l0_0.length l0_0) (hc0_0 : l0_0.length ≤ c0_0) (h : laws_FnExactGreedyStages.f k l0_0 = some r) :
  Calls Try.prog 9 #[.agg #[.slice A0_0 l0_0.length c0_0]] w fun e w' => e = .returned (.bool r) ∧ Below w.heap.size w w' := by
 unfold laws_FnExactGreedyStages.f at h
 split at h
 case isFalse => cases h
 rename_i hok
 obtain rfl := Option.some.inj h
 obtain ⟨K1, h1⟩ := szAssembly_ev l0_0 1048576 (by omega) hok.1 hok.2
 by_cases c : szL l0_0 1048576 < 0
 ·rw [if_pos c] at h1
  exact lawGr_bad A0_0 c0_0 l0_0 w hr0_0 hc0_0 K1 (h1 K1 (Nat.le_refl _))
 ·rw [if_neg c] at h1
  obtain ⟨hsz, hz⟩ := szL_eq l0_0 1048576 (by omega) c
  obtain ⟨K2, h2⟩ := toAssembly_ev l0_0 hz
  obtain ⟨K3, h3⟩ := eqAssembly_ev (toP l0_0) (toP_ok hz)
  obtain ⟨x, x1, hx⟩ : ∃ x x1, greedyR (toP l0_0) = (x, x1) := ⟨_, _, rfl⟩
  have hxo : OutOk x := by have := greedyR_ok (toP l0_0); rw [hx] at this; exact this
  have hsm := out_small hxo
  obtain ⟨K4, h4⟩ := eqStageS_ev x hsm.1
  obtain ⟨K6, h6⟩ := heldStageS_ev x 1 (by decide) (by have := hsm.2; omega) (by have := hxo.len; omega) (fun s hs => by have := hxo.each s hs; omega)
  exact lawGr_good A0_0 c0_0 l0_0 w hr0_0 hc0_0 (K1 + K2 + K3 + K4 + K6) _ (h1 _ (by omega)) c (toP l0_0) (toP_ok hz) (h2 _ (by omega)) (h3 _ (by omega)) x x1 hx hxo (h4 _ (by omega)) (h6 _ (by omega)) hsm.2
def ok71 (x : S71) : Prop := (Go.Proofs.Ytlbckkagjekhnaa.Opn.okTwo (Go.Proofs.Ytlbckkagjekhnaa.Opn.okInt .i64) (Go.Proofs.Ytlbckkagjekhnaa.Opn.okTwo (Go.Proofs.Ytlbckkagjekhnaa.Opn.okInt .i64) (Go.Proofs.Ytlbckkagjekhnaa.Opn.okInt .i64))) (x.f0, x.f1, x.f2)
def ok24 (x : S24) : Prop := (Go.Proofs.Ytlbckkagjekhnaa.Opn.okAll (Go.Proofs.Ytlbckkagjekhnaa.Opn.okAll ok71)) x.f0
theorem op2 : Go.Proofs.Ytlbckkagjekhnaa.Opn.Op Try.prog 2 (Kd.int .i64) (Go.Proofs.Ytlbckkagjekhnaa.Opn.okInt .i64) := Go.Proofs.Ytlbckkagjekhnaa.Opn.Op.int Try.underlying2
theorem op71 : Go.Proofs.Ytlbckkagjekhnaa.Opn.Op Try.prog 71 k71 ok71 := Go.Proofs.Ytlbckkagjekhnaa.Opn.Op.iso (Go.Proofs.Ytlbckkagjekhnaa.Opn.Op.struct Try.underlying71 (by kernel_rfl) (Go.Proofs.Ytlbckkagjekhnaa.Opn.OpF.cons rfl (by kernel_rfl) op2 (Go.Proofs.Ytlbckkagjekhnaa.Opn.OpF.cons rfl (by kernel_rfl) op2 (Go.Proofs.Ytlbckkagjekhnaa.Opn.OpF.one rfl (by kernel_rfl) op2)))) (fun x : S71 => (x.f0, x.f1, x.f2)) (fun p => ⟨p.1, p.2.1, p.2.2⟩) (fun _ => rfl)
theorem op25 : Go.Proofs.Ytlbckkagjekhnaa.Opn.Op Try.prog 25 (Kd.slice 71 k71) (Go.Proofs.Ytlbckkagjekhnaa.Opn.okAll ok71) := Go.Proofs.Ytlbckkagjekhnaa.Opn.Op.slice Try.underlying25 (by kernel_rfl) op71
theorem op22 : Go.Proofs.Ytlbckkagjekhnaa.Opn.Op Try.prog 22 (Kd.slice 25 (Kd.slice 71 k71)) (Go.Proofs.Ytlbckkagjekhnaa.Opn.okAll (Go.Proofs.Ytlbckkagjekhnaa.Opn.okAll ok71)) := Go.Proofs.Ytlbckkagjekhnaa.Opn.Op.slice Try.underlying22 (by kernel_rfl) op25
theorem op24 : Go.Proofs.Ytlbckkagjekhnaa.Opn.Op Try.prog 24 k24 ok24 := Go.Proofs.Ytlbckkagjekhnaa.Opn.Op.iso (Go.Proofs.Ytlbckkagjekhnaa.Opn.Op.struct Try.underlying24 (by kernel_rfl) (Go.Proofs.Ytlbckkagjekhnaa.Opn.OpF.one rfl (by kernel_rfl) op22)) (fun x : S24 => x.f0) (fun p => ⟨p⟩) (fun _ => rfl)
def FnExactGreedyStages.Pure : Prop := ∀ (a0 : S24), ok24 a0 → ∃ k, laws_FnExactGreedyStages.f k (a0.f0) = some true
end Go.Proofs.Ytlbckkagjekhnaa.A
/- GreedyStages: the law's contract answers true. -/
namespace Go.Proofs.Ytlbckkagjekhnaa.Pure
open Go.RowKit Go.Proofs.YtlbckkagjekhnaaW.PrintWords Go.Proofs.YtlbckkagjekhnaaW.PrintLast Go.Proofs.YtlbckkagjekhnaaW.PrintMore Go.Proofs.Ytlbckkagjekhnaa.A
theorem FnExactGreedyStages : Go.Proofs.Ytlbckkagjekhnaa.A.FnExactGreedyStages.Pure := by
  intro a0 hok
  refine ⟨0, ?_⟩
  unfold laws_FnExactGreedyStages.f
  exact if_pos ⟨hok.1, fun r hr => (hok.2 r hr).1⟩
end Go.Proofs.Ytlbckkagjekhnaa.Pure

