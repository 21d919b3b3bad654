/- What the row of the law FnExactSolveJigsaw stands on, part 2. -/
import Derived.Test.YtgcagmmghckbbaaMFnExactSolveJigsaw1
/- Plain words on rounds: loops over a list by its index, in 'from some number of rounds on' form. No program in sight. -/
namespace Go.Proofs.YtgcagmmghckbbaaW.PrintMore
open Go.RowKit Go.Proofs.YtgcagmmghckbbaaW.PrintWords

theorem wrap_id {x : Int} (h0 : -9223372036854775808 ≤ x) (h1 : x ≤ 9223372036854775807) : wrap64 x = x := by unfold wrap64; omega
theorem wrap_succ (j : Nat) (h : j < 9223372036854775807) : wrap64 ((j : Int) + 1) = ((j + 1 : Nat) : Int) := by unfold wrap64; omega
theorem Ev.unfold {α : Type} {g f : Nat → Option α} {r : α} (h : ∀ k, g k = f k) (k : Ev f r) : Ev g r := Ev.congr h k
theorem Ev.val {α : Type} {g : Nat → Option α} {r : α} (h : ∀ k, g k = some r) : Ev g r := ⟨0, fun k _ => h k⟩
theorem Ev.bindc {α β : Type} {g : Option α} {f : Nat → α → Option β} {a : α} {r : β} (h : g = some a) (k : Ev (fun n => f n a) r) : Ev (fun n => g.bind (f n)) r := by
  subst h
  exact k
theorem Ev.succ {α : Type} {g : Nat → Option α} {r : α} (h : Ev (fun k => g (k + 1)) r) : Ev g r := Ev.step (fun _ => rfl) h
/-- A loop over a list by its index: from place j on it comes to 'v' of its state and of what is left. -/
theorem ev_list {α σ β : Type} (xs : List α) (l : σ → Int → Nat → Option β) (v : σ → List α → β)
    (hd : ∀ s, Ev (l s (xs.length : Int)) (v s []))
    (hs : ∀ s (j : Nat) (h : j < xs.length), (∀ s', Ev (l s' ((j + 1 : Nat) : Int)) (v s' (xs.drop (j + 1)))) → Ev (l s (j : Int)) (v s (xs[j] :: xs.drop (j + 1)))) :
    ∀ (n j : Nat) (s : σ), j + n = xs.length → Ev (l s (j : Int)) (v s (xs.drop j)) := by
  intro n
  induction n with
  | zero =>
    intro j s h
    have : j = xs.length := by omega
    subst this
    rw [List.drop_length]
    exact hd s
  | succ n ih =>
    intro j s h
    have hj : j < xs.length := by omega
    rw [List.drop_eq_getElem_cons hj]
    exact hs s j hj (fun s' => ih (j + 1) s' (by omega))
theorem ev_list0 {α σ β : Type} (xs : List α) (l : σ → Int → Nat → Option β) (v : σ → List α → β)
    (hd : ∀ s, Ev (l s (xs.length : Int)) (v s []))
    (hs : ∀ s (j : Nat) (h : j < xs.length), (∀ s', Ev (l s' ((j + 1 : Nat) : Int)) (v s' (xs.drop (j + 1)))) → Ev (l s (j : Int)) (v s (xs[j] :: xs.drop (j + 1)))) (s : σ) :
    Ev (l s 0) (v s xs) := by
  have := ev_list xs l v hd hs xs.length 0 s (by omega)
  simpa using this
/-- A loop over places: an invariant, what is to be known of the answer, early ends. -/
theorem ev_inv {σ β : Type} (N : Nat) (I : σ → Nat → Prop) (Q : β → Prop) (l : σ → Int → Nat → Option β)
    (hd : ∀ s, I s N → ∃ r, Q r ∧ Ev (l s (N : Int)) r)
    (hs : ∀ s (j : Nat), j < N → I s j → (∃ r, Q r ∧ Ev (l s (j : Int)) r) ∨ ∃ s', I s' (j + 1) ∧ ∀ r, Ev (l s' ((j + 1 : Nat) : Int)) r → Ev (l s (j : Int)) r) :
    ∀ (n j : Nat) (s : σ), j + n = N → I s j → ∃ r, Q r ∧ Ev (l s (j : Int)) r := by
  intro n
  induction n with
  | zero =>
    intro j s h hi
    have : j = N := by omega
    subst this
    exact hd s hi
  | succ n ih =>
    intro j s h hi
    rcases hs s j (by omega) hi with h1 | ⟨s', hi', h1⟩
    · exact h1
    · obtain ⟨r, hq, hr⟩ := ih (j + 1) s' (by omega) hi'
      exact ⟨r, hq, h1 r hr⟩
theorem ev_inv0 {σ β : Type} (N : Nat) (I : σ → Nat → Prop) (Q : β → Prop) (l : σ → Int → Nat → Option β)
    (hd : ∀ s, I s N → ∃ r, Q r ∧ Ev (l s (N : Int)) r)
    (hs : ∀ s (j : Nat), j < N → I s j → (∃ r, Q r ∧ Ev (l s (j : Int)) r) ∨ ∃ s', I s' (j + 1) ∧ ∀ r, Ev (l s' ((j + 1 : Nat) : Int)) r → Ev (l s (j : Int)) r)
    (s : σ) (h0 : I s 0) : ∃ r, Q r ∧ Ev (l s 0) r := ev_inv N I Q l hd hs N 0 s (by omega) h0
/-- The same where the answer is known. -/
theorem ev_at {σ β : Type} (N : Nat) (I : σ → Nat → Prop) (r : β) (l : σ → Int → Nat → Option β)
    (hd : ∀ s, I s N → Ev (l s (N : Int)) r)
    (hs : ∀ s (j : Nat), j < N → I s j → ∃ s', I s' (j + 1) ∧ (Ev (l s' ((j + 1 : Nat) : Int)) r → Ev (l s (j : Int)) r))
    (s : σ) (h0 : I s 0) : Ev (l s 0) r := by
  have key : ∀ (n j : Nat) (s : σ), j + n = N → I s j → Ev (l s (j : Int)) r := by
    intro n
    induction n with
    | zero =>
      intro j s h hi
      have : j = N := by omega
      subst this
      exact hd s hi
    | succ n ih =>
      intro j s h hi
      obtain ⟨s', hi', h1⟩ := hs s j (by omega) hi
      exact h1 (ih (j + 1) s' (by omega) hi')
  exact key N 0 s (by omega) h0
theorem set_fill {α β : Type} (f : α → β) (z : β) (xs : List α) (j : Nat) (h : j < xs.length) :
    ((xs.take j).map f ++ List.replicate (xs.length - j) z).set j (f xs[j]) = (xs.take (j + 1)).map f ++ List.replicate (xs.length - (j + 1)) z := by
  have hl : ((xs.take j).map f).length = j := by simp; omega
  rw [List.set_append_right _ _ (by omega), hl, Nat.sub_self, List.take_succ_eq_append_getElem h, List.map_append, List.append_assoc]
  obtain ⟨m, hm⟩ : ∃ m, xs.length - j = m + 1 := ⟨xs.length - j - 1, by omega⟩
  rw [hm, show xs.length - (j + 1) = m from by omega, List.replicate_succ, List.set_cons_zero]
  rfl
theorem getD_nat {α : Type} (xs : List α) (d : α) (j : Nat) (h : j < xs.length) : xs.getD ((j : Int).toNat) d = xs[j] := by simp [h]
theorem getD_at {α : Type} (xs : List α) (d : α) (j : Nat) (h : j < xs.length) : xs.getD j d = xs[j] := by simp [h]
end Go.Proofs.YtgcagmmghckbbaaW.PrintMore

/- Plain laws of the jigsaw's small functions: ranges, tiles, turns. No memory in sight. -/
namespace Go.Proofs.Ytgcagmmghckbbaa.A
open Go.RowKit Go.Proofs.YtgcagmmghckbbaaW.PrintWords Go.Proofs.YtgcagmmghckbbaaW.PrintLast Go.Proofs.YtgcagmmghckbbaaW.PrintMore

abbrev Tl := S24
def inB (x lo hi : Int) : Bool := decide (lo ≤ x) && decide (x ≤ hi)
theorem l01In_eq (a b c : Int) : spec_l01In.f a b c = some (inB a b c) := by
  unfold spec_l01In.f inB
  by_cases h : a ≥ b
  · rw [if_pos h]; simp; omega
  · rw [if_neg h]; simp; omega
theorem within_eq (a b c : Int) : impl_within.f a b c = some (inB a b c) := by
  unfold impl_within.f inB
  by_cases h : a ≥ b
  · rw [if_pos h]; simp; omega
  · rw [if_neg h]; simp; omega
def okE (x : Int) : Bool := inB x (-9) 9
def okT (t : Tl) : Bool := okE t.f0 && (okE t.f1 && (okE t.f2 && okE t.f3))
theorem isTile_eq (t : Tl) : impl_isTile.f t.f0 t.f1 t.f2 t.f3 = some (okT t) := by
  unfold impl_isTile.f okT okE
  simp only [within_eq, Option.bind_some]
  cases inB t.f0 (-9) 9 <;> cases inB t.f1 (-9) 9 <;> cases inB t.f2 (-9) 9 <;> simp
theorem notTile_eq : impl_areTiles.p = fun t => !okT t := by
  funext t
  unfold impl_areTiles.p
  rw [isTile_eq]
  rfl
theorem areTiles_eq (k : Nat) (l : List Tl) : impl_areTiles.f k l = some (l.all okT) := by
  unfold impl_areTiles.f
  rw [notTile_eq]
  simp [List.all_eq_not_any_not]
theorem l30Codes_eq (a b c d : Int) : spec_l30Codes.f a b c d = some [a, b, c, d] := rfl
theorem l30Valid_round (k : Nat) (x0 : List Tl) (x3 a b c d : Int) :
    spec_l30Valid.l1 (k + 5) x0 x3 [a, b, c, d] 0 = if okE a && (okE b && (okE c && okE d)) then spec_l30Valid.l0 k x0 (wrap64 (x3 + 1)) else some false := by
  simp only [spec_l30Valid.l1, l01In_eq, Option.bind_some, rd]
  cases ha : okE a <;> cases hb : okE b <;> cases hc : okE c <;> cases hd : okE d <;> simp_all [okE, wrap64]
theorem l30Valid_ev (xs : List Tl) (h : xs.length ≤ maxLen) : Ev (fun k => spec_l30Valid.f k xs) (xs.all okT) := by
  unfold spec_l30Valid.f
  unfold maxLen at h
  refine ev_list0 xs (fun (_ : Unit) i k => spec_l30Valid.l0 k xs i) (fun _ l => l.all okT) (fun _ => ?_) (fun _ j hj ih => ?_) ()
  · exact Ev.step (f := fun _ => some true) (fun k => by simp only [spec_l30Valid.l0]; rw [if_neg (by omega)]) (Ev.now _)
  · refine Ev.step (f := fun k => spec_l30Valid.l1 k xs j [xs[j].f0, xs[j].f1, xs[j].f2, xs[j].f3] 0) (fun k => by
      simp only [spec_l30Valid.l0]
      rw [if_pos (by omega), if_pos (by omega)]
      simp only [l30Codes_eq, Option.bind_some, rd_T24, getD_nat xs _ j hj]) ?_
    obtain ⟨K, hK⟩ := ih ()
    refine ⟨K + 5, fun k hk => ?_⟩
    obtain ⟨m, rfl⟩ : ∃ m, k = m + 5 := ⟨k - 5, by omega⟩
    show spec_l30Valid.l1 (m + 5) _ _ _ _ = _
    rw [l30Valid_round, wrap_succ j (by omega), List.all_cons]
    show (if okT xs[j] = true then _ else _) = _
    cases okT xs[j]
    · rfl
    · simp only [if_true, Bool.true_and]
      exact hK m (by omega)
def turnT (t : Tl) (n : Int) : Tl := if n = 0 then t else if n = 1 then ⟨t.f3, t.f0, t.f1, t.f2⟩ else if n = 2 then ⟨t.f2, t.f3, t.f0, t.f1⟩ else ⟨t.f1, t.f2, t.f3, t.f0⟩
def tup (t : Tl) : Int × Int × Int × Int := (t.f0, t.f1, t.f2, t.f3)
theorem l30Turn_eq (t : Tl) (n : Int) (h0 : 0 ≤ n) (h1 : n ≤ 3) : spec_l30Turn.f t.f0 t.f1 t.f2 t.f3 n = some (tup (turnT t n)) := by
  unfold spec_l30Turn.f
  rw [l30Codes_eq, Option.bind_some]
  have : n = 0 ∨ n = 1 ∨ n = 2 ∨ n = 3 := by omega
  rcases this with rfl | rfl | rfl | rfl <;> simp [wrap64, rd, turnT, tup]
theorem turnTile_at (t : Tl) (n : Int) (h0 : 0 ≤ n) (h1 : n ≤ 3) (k : Nat) : impl_turnTile.f (k + 4) t.f0 t.f1 t.f2 t.f3 n = some (tup (turnT t n)) := by
  unfold impl_turnTile.f
  have : n = 0 ∨ n = 1 ∨ n = 2 ∨ n = 3 := by omega
  rcases this with rfl | rfl | rfl | rfl <;> simp [impl_turnTile.l0, wrap64, turnT, tup]
theorem inB_iff (x a b : Int) : inB x a b = true ↔ a ≤ x ∧ x ≤ b := by unfold inB; simp
end Go.Proofs.Ytgcagmmghckbbaa.A












/- Plain laws of what the laws do with tiles and numbers: copies, marks, comparisons; sums of edges, flat edges. -/
namespace Go.Proofs.Ytgcagmmghckbbaa.A
set_option linter.unusedSimpArgs false
set_option linter.unusedVariables false
open Go.RowKit Go.Proofs.YtgcagmmghckbbaaW.PrintWords Go.Proofs.YtgcagmmghckbbaaW.PrintLast Go.Proofs.YtgcagmmghckbbaaW.PrintMore

def toTl (x : S23) : Tl := ⟨x.f0, x.f1, x.f2, x.f3⟩
theorem toTileS_ev (l : List S23) (h : l.length ≤ 1048576) : Ev (fun k => laws_toTileS.f k l) (l.map toTl) := by
  unfold laws_toTileS.f
  simp only [Int.toNat_natCast, show (0 : Int) ≤ l.length from by omega, show l.length ≤ 8796093022208 from by omega, if_true]
  refine ev_at l.length (fun s j => s = (l.take j).map toTl ++ List.replicate (l.length - j) z24) (l.map toTl) (fun s i k => laws_toTileS.l0 k l s i) (fun s hi => ?_) (fun s j hj hi => ?_) _ (by simp)
  · refine Ev.step (f := fun _ => some s) (fun k => by simp only [laws_toTileS.l0]; rw [if_neg (by omega)]) ?_
    rw [hi]
    simpa using Ev.now _
  · have hl : s.length = l.length := by rw [hi]; simp; omega
    refine ⟨s.set j (toTl l[j]), by rw [hi]; exact set_fill toTl _ l j hj, fun h2 => Ev.step (fun k => ?_) h2⟩
    simp only [laws_toTileS.l0, laws_toTile.f, Option.bind_some]
    rw [if_pos (by omega), if_pos (by omega), if_pos (by omega), wrap_succ j (by omega)]
    simp only [rd_T23, getD_at l _ j hj, Int.toNat_natCast]
    rfl
theorem szTileS_in (l : List S23) (h : l.length ≤ 1048576) : laws_szTileS.f l 1048576 = some (1048576 - (l.length : Int)) := by
  unfold laws_szTileS.f
  rw [show wrap64 (1048576 - (l.length : Int)) = 1048576 - (l.length : Int) from by unfold wrap64; omega, if_neg (by omega)]
theorem szTileS_out (l : List S23) (hm : l.length ≤ maxLen) (h : ¬ l.length ≤ 1048576) : laws_szTileS.f l 1048576 = some (-1) := by
  unfold maxLen at hm
  unfold laws_szTileS.f
  rw [if_pos (by unfold wrap64; omega)]
theorem eqTileS_ev (l : List Tl) (h : l.length ≤ 1048576) : Ev (fun k => laws_eqTileS.f k l l) true := by
  unfold laws_eqTileS.f
  simp only [if_true]
  refine ev_at l.length (fun (_ : Unit) _ => True) true (fun _ i k => laws_eqTileS.l0 k l l i) (fun s hi => ?_) (fun s j hj hi => ?_) () trivial
  · exact Ev.step (f := fun _ => some true) (fun k => by simp only [laws_eqTileS.l0]; rw [if_neg (by omega)]) (Ev.now _)
  · refine ⟨(), trivial, fun h2 => Ev.step (fun k => ?_) h2⟩
    simp only [laws_eqTileS.l0, laws_eqTile.f, if_true, Option.bind_some]
    rw [if_pos (by omega), if_pos (by omega), if_pos (by omega), wrap_succ j (by omega)]
theorem markTileS_ev (l : List Tl) (h : l.length ≤ 1048576) : ∃ r, r.1 = 1 + 4 * (l.length : Int) ∧ Ev (fun k => laws_markTileS.f k l 1) r := by
  unfold laws_markTileS.f
  refine ev_inv0 l.length (fun (s : List Tl × Int) j => s.1.length = l.length ∧ s.2 = 1 + 4 * (j : Int)) (fun r => r.1 = 1 + 4 * (l.length : Int)) (fun s i k => laws_markTileS.l0 k s.1 s.2 i) (fun s hi => ?_) (fun s j hj hi => .inr ?_) (l, 1) ⟨rfl, by simp⟩
  · refine ⟨(s.2, s.1), by simp only; omega, Ev.step (f := fun _ => some (s.2, s.1)) (fun k => by simp only [laws_markTileS.l0]; rw [if_neg (by omega)]) (Ev.now _)⟩
  · have e : wrap64 (wrap64 (wrap64 (wrap64 (s.2 + 1) + 1) + 1) + 1) = s.2 + 4 := by have := hi.2; unfold wrap64; omega
    obtain ⟨X, hX, hl⟩ : ∃ X : List Tl, (∀ k, laws_markTileS.l0 (k + 1) s.1 s.2 (j : Int) = laws_markTileS.l0 k X (s.2 + 4) ((j + 1 : Nat) : Int)) ∧ X.length = s.1.length :=
      ⟨_, fun k => by
        simp only [laws_markTileS.l0, Option.bind_some]
        rw [if_pos (by omega), if_pos (by omega), wrap_succ j (by omega), e], by simp⟩
    exact ⟨(X, s.2 + 4), ⟨by simp only; omega, by simp only; omega⟩, fun r h2 => Ev.step hX h2⟩
end Go.Proofs.Ytgcagmmghckbbaa.A


namespace Go.Proofs.Ytgcagmmghckbbaa.A
open Go.RowKit Go.Proofs.YtgcagmmghckbbaaW.PrintWords Go.Proofs.YtgcagmmghckbbaaW.PrintLast Go.Proofs.YtgcagmmghckbbaaW.PrintMore
attribute [local go_sem] max2_int min2_int max_two min_two max_three min_three max_four min_four   -- for this text's walks alone
set_option linter.unusedVariables false
set_option linter.unusedSimpArgs false

def spec_l30Code.f (k : Nat) (l0 : List (S24)) (a1 : Int) (a2 : Int) : Option (Int) := (spec_l30Valid.f k l0).bind fun t457 => (if t457 = true then ((spec_l01In.f a1 1 6).bind fun t458 => (if t458 = true then ((spec_l01In.f a2 1 6).bind fun t459 => (if t459 = true then (if (wrap64 (a1 * a2)) = (l0.length : Int) then (if (l0.length : Int) > 12 then (some 2) else (some 0)) else (some 2)) else (some 2))) else (some 2))) else (some 1))
set_option maxHeartbeats 8000000 in
set_option maxRecDepth 100000 in
theorem spec_l30Code.calls (k : Nat) (A0 : Option Addr) (c0 : Nat) (l0 : List (S24)) (a1 : Int) (a2 : Int) (r : Int) (w : World) (hr0 : Kd.C k24 w A0 l0.length l0) (hc0 : l0.length ≤ c0) (h : spec_l30Code.f k l0 a1 a2 = some r) :
    Calls Try.prog 59 #[.slice A0 l0.length c0, .int .i64 a1, .int .i64 a2] w fun e w' => e = .returned (.int .i64 r) ∧ Below w.heap.size w w' := by
  have HR0 := Aside0.mk hr0
  have HC0 := Aside0.mk hc0
  clear hr0 hc0
  have HB := Aside0.mk (Below.refl w.heap.size w)
  have H : ((spec_l30Valid.f k l0).bind fun t457 => (if t457 = true then ((spec_l01In.f a1 1 6).bind fun t458 => (if t458 = true then ((spec_l01In.f a2 1 6).bind fun t459 => (if t459 = true then (if (wrap64 (a1 * a2)) = (l0.length : Int) then (if (l0.length : Int) > 12 then (some 2) else (some 0)) else (some 2)) else (some 2))) else (some 2))) else (some 1))) = some r := h
  clear h
  replace H := Option.bind_eq_some_iff.mp H
  obtain ⟨t457, A40, H⟩ := H
  replace H : (if t457 = true then ((spec_l01In.f a1 1 6).bind fun t458 => (if t458 = true then ((spec_l01In.f a2 1 6).bind fun t459 => (if t459 = true then (if (wrap64 (a1 * a2)) = (l0.length : Int) then (if (l0.length : Int) > 12 then (some 2) else (some 0)) else (some 2)) else (some 2))) else (some 2))) else (some 1)) = some r := H
  have A4 := Aside0.mk A40
  clear A40
  have H0_ := Aside0.mk H
  clear H
  go_enter Try.func59, Try.ntmps59
  go_wp2_with (first | ((with_reducible refine gate_callee (f := 49) rfl ?_); refine goesL_ (some 8) rfl rfl Try.func49 (by kernel_rfl) rfl #[.slice A0 l0.length c0] rfl (by (try simp only [List.map_toArray, List.map_cons, List.map_nil]); first | done | rfl | (simp only [List.length_drop, List.length_take]; rfl)) ?_; (with_reducible refine (spec_l30Valid.calls k _ _ l0 t457 _ ?side1 ?side2 A4.out).mono ?_); (case side1 => repeat (first | exact HR0.out | (with_reducible refine Kd.C_alloc ?_ _) | (with_reducible refine Kd.C_drewN ?_ _) | (with_reducible refine Kd.C_drew ?_))); (case side2 => exact HC0.out); rintro e w5 ⟨rfl, hb⟩; refine ⟨_, rfl, ?_⟩; have n0_ := Aside0.mk (below_step (by repeat (first | (with_reducible first | exact HB.out | apply below_alloc | apply pw_below_drewN | apply below_drew1) | exact HB.out)) hb); clear HB; have HB := n0_; clear n0_; (try clear hb); (try clear hb2); (try clear hk); (try clear hi); refine Stop0.out ?_))
  refine Stop0.mk ?_
  have H := H0_.out
  clear H0_
  by_cases c6 : t457 = true
  · subst c6
    have H1 : ((spec_l01In.f a1 1 6).bind fun t458 => (if t458 = true then ((spec_l01In.f a2 1 6).bind fun t459 => (if t459 = true then (if (wrap64 (a1 * a2)) = (l0.length : Int) then (if (l0.length : Int) > 12 then (some 2) else (some 0)) else (some 2)) else (some 2))) else (some 2))) = some r := by rw [if_pos rfl] at H; exact H
    clear H
    have H := H1
    clear H1
    replace H := Option.bind_eq_some_iff.mp H
    obtain ⟨t458, A70, H⟩ := H
    replace H : (if t458 = true then ((spec_l01In.f a2 1 6).bind fun t459 => (if t459 = true then (if (wrap64 (a1 * a2)) = (l0.length : Int) then (if (l0.length : Int) > 12 then (some 2) else (some 0)) else (some 2)) else (some 2))) else (some 2)) = some r := H
    have A7 := Aside0.mk A70
    clear A70
    have H0_ := Aside0.mk H
    clear H
    go_wp2_with (first | ((with_reducible refine gate_callee (f := 50) rfl ?_); refine goesL_ (some 11) rfl rfl Try.func50 (by kernel_rfl) rfl #[.int .i64 a1, .int .i64 1, .int .i64 6] rfl (by (try simp only [List.map_toArray, List.map_cons, List.map_nil]); first | done | rfl | (simp only [List.length_drop, List.length_take]; rfl)) ?_; (with_reducible refine (spec_l01In.calls a1 1 6 t458 _ A7.out).mono ?_); rintro e w' ⟨rfl, ⟨nd, rfl⟩⟩; refine ⟨_, rfl, ?_⟩; refine Stop0.out ?_))
    refine Stop0.mk ?_
    have H := H0_.out
    clear H0_
    by_cases c8 : t458 = true
    · subst c8
      have H1 : ((spec_l01In.f a2 1 6).bind fun t459 => (if t459 = true then (if (wrap64 (a1 * a2)) = (l0.length : Int) then (if (l0.length : Int) > 12 then (some 2) else (some 0)) else (some 2)) else (some 2))) = some r := by rw [if_pos rfl] at H; exact H
      clear H
      have H := H1
      clear H1
      replace H := Option.bind_eq_some_iff.mp H
      obtain ⟨t459, A90, H⟩ := H
      replace H : (if t459 = true then (if (wrap64 (a1 * a2)) = (l0.length : Int) then (if (l0.length : Int) > 12 then (some 2) else (some 0)) else (some 2)) else (some 2)) = some r := H
      have A9 := Aside0.mk A90
      clear A90
      have H0_ := Aside0.mk H
      clear H
      go_wp2_with (first | (go_at_call 50; (with_reducible refine (spec_l01In.calls a2 1 6 t459 _ A9.out).mono ?_); rintro e w' ⟨rfl, ⟨nd, rfl⟩⟩; refine Stop0.out ?_))
      refine Stop0.mk ?_
      have H := H0_.out
      clear H0_
      by_cases c10 : t459 = true
      · subst c10
        have H1 : (if (wrap64 (a1 * a2)) = (l0.length : Int) then (if (l0.length : Int) > 12 then (some 2) else (some 0)) else (some 2)) = some r := by rw [if_pos rfl] at H; exact H
        clear H
        have H := H1
        clear H1
        by_cases c11 : (wrap64 (a1 * a2)) = (l0.length : Int)
        · rw [if_pos c11] at H
          have c11b0 : ((wrap64 (a1 * a2)) == (l0.length : Int)) = true := beq_iff_eq.mpr c11
          have c11b1 : ((wrap64 (a1 * a2)) != (l0.length : Int)) = false := bne_eq_false_iff_eq.mpr c11
          clear c11
          by_cases c12 : (l0.length : Int) > 12
          · rw [if_pos c12] at H
            have c12b0 : decide (12 < (l0.length : Int)) = true := decide_eq_true c12
            have c12b1 : decide (12 < l0.length) = true := decide_eq_true (by omega)
            clear c12
            obtain rfl := Option.some.inj H
            go_wp2
            go_ret
            exact ⟨by first | rfl | (simp [errW_none, errW_some] <;> rfl) | (simp [*, errW_none, errW_some] <;> rfl), by repeat (first | (with_reducible first | exact HB.out | apply below_alloc | apply pw_below_drewN | apply below_drew1) | exact HB.out)⟩
          · rw [if_neg c12] at H
            have c12b0 : decide (12 < (l0.length : Int)) = false := decide_eq_false c12
            have c12b1 : decide (12 < l0.length) = false := decide_eq_false (by omega)
            clear c12
            obtain rfl := Option.some.inj H
            go_wp2
            go_ret
            exact ⟨by first | rfl | (simp [errW_none, errW_some] <;> rfl) | (simp [*, errW_none, errW_some] <;> rfl), by repeat (first | (with_reducible first | exact HB.out | apply below_alloc | apply pw_below_drewN | apply below_drew1) | exact HB.out)⟩
        · rw [if_neg c11] at H
          have c11b0 : ((wrap64 (a1 * a2)) == (l0.length : Int)) = false := beq_eq_false_iff_ne.mpr c11
          have c11b1 : ((wrap64 (a1 * a2)) != (l0.length : Int)) = true := bne_iff_ne.mpr c11
          obtain rfl := Option.some.inj H
          go_wp2
          go_ret
          exact ⟨by first | rfl | (simp [errW_none, errW_some] <;> rfl) | (simp [*, errW_none, errW_some] <;> rfl), by repeat (first | (with_reducible first | exact HB.out | apply below_alloc | apply pw_below_drewN | apply below_drew1) | exact HB.out)⟩
      · replace c10 := Bool.eq_false_iff.mpr c10
        subst c10
        have H1 : (some 2) = some r := by rw [if_neg (show ¬ (false = true) by decide)] at H; exact H
        clear H
        have H := H1
        clear H1
        obtain rfl := Option.some.inj H
        go_wp2
        go_ret
        exact ⟨by first | rfl | (simp [errW_none, errW_some] <;> rfl) | (simp [*, errW_none, errW_some] <;> rfl), by repeat (first | (with_reducible first | exact HB.out | apply below_alloc | apply pw_below_drewN | apply below_drew1) | exact HB.out)⟩
    · replace c8 := Bool.eq_false_iff.mpr c8
      subst c8
      have H1 : (some 2) = some r := by rw [if_neg (show ¬ (false = true) by decide)] at H; exact H
      clear H
      have H := H1
      clear H1
      obtain rfl := Option.some.inj H
      go_wp2
      go_ret
      exact ⟨by first | rfl | (simp [errW_none, errW_some] <;> rfl) | (simp [*, errW_none, errW_some] <;> rfl), by repeat (first | (with_reducible first | exact HB.out | apply below_alloc | apply pw_below_drewN | apply below_drew1) | exact HB.out)⟩
  · replace c6 := Bool.eq_false_iff.mpr c6
    subst c6
    have H1 : (some 1) = some r := by rw [if_neg (show ¬ (false = true) by decide)] at H; exact H
    clear H
    have H := H1
    clear H1
    obtain rfl := Option.some.inj H
    go_wp2
    go_ret
    exact ⟨by first | rfl | (simp [errW_none, errW_some] <;> rfl) | (simp [*, errW_none, errW_some] <;> rfl), by repeat (first | (with_reducible first | exact HB.out | apply below_alloc | apply pw_below_drewN | apply below_drew1) | exact HB.out)⟩

end Go.Proofs.Ytgcagmmghckbbaa.A


namespace Go.Proofs.Ytgcagmmghckbbaa.A
open Go.RowKit Go.Proofs.YtgcagmmghckbbaaW.PrintWords Go.Proofs.YtgcagmmghckbbaaW.PrintLast Go.Proofs.YtgcagmmghckbbaaW.PrintMore
attribute [local go_sem] max2_int min2_int max_two min_two max_three min_three max_four min_four   -- for this text's walks alone
set_option linter.unusedVariables false
set_option linter.unusedSimpArgs false

def spec_l30Match.f (a0 : Int) (a1 : Int) : Option (Bool) := if a0 = 0 then (some false) else (some ((wrap64 (a0 + a1)) == 0))
set_option maxHeartbeats 8000000 in
set_option maxRecDepth 100000 in
theorem spec_l30Match.calls (a0 : Int) (a1 : Int) (r : Bool) (w : World) (h : spec_l30Match.f a0 a1 = some r) :
    Calls Try.prog 76 #[.int .i64 a0, .int .i64 a1] w fun e w' => e = .returned (.bool r) ∧ Drawn0 w w' := by
  have H : (if a0 = 0 then (some false) else (some ((wrap64 (a0 + a1)) == 0))) = some r := h
  clear h
  by_cases c3 : a0 = 0
  · rw [if_pos c3] at H
    have c3b0 : (a0 == 0) = true := beq_iff_eq.mpr c3
    have c3b1 : (a0 != 0) = false := bne_eq_false_iff_eq.mpr c3
    clear c3
    obtain rfl := Option.some.inj H
    go_enter Try.func76, Try.ntmps76
    go_wp2
    go_ret
    exact ⟨by first | rfl | (simp; done) | (simp [*]; done), by repeat (first | exact Drawn0.refl _ | apply Drawn0.step)⟩
  · rw [if_neg c3] at H
    have c3b0 : (a0 == 0) = false := beq_eq_false_iff_ne.mpr c3
    have c3b1 : (a0 != 0) = true := bne_iff_ne.mpr c3
    obtain rfl := Option.some.inj H
    go_enter Try.func76, Try.ntmps76
    go_wp2
    go_ret
    exact ⟨by first | rfl | (simp; done) | (simp [*]; done), by repeat (first | exact Drawn0.refl _ | apply Drawn0.step)⟩

end Go.Proofs.Ytgcagmmghckbbaa.A

namespace Go.Proofs.Ytgcagmmghckbbaa.A
open Go.RowKit Go.Proofs.YtgcagmmghckbbaaW.PrintWords Go.Proofs.YtgcagmmghckbbaaW.PrintLast Go.Proofs.YtgcagmmghckbbaaW.PrintMore
attribute [local go_sem] max2_int min2_int max_two min_two max_three min_three max_four min_four   -- for this text's walks alone
set_option linter.unusedVariables false
set_option linter.unusedSimpArgs false

def spec_l30Fits.j0 : Nat → List (S24) → Int → Int → Int → Int → Bool → Int → Int → Int → Int → Option (Bool)
  | 0, _, _, _, _, _, _, _, _, _, _ => none
  | k + 1, x0, x2, x9, x10, x11, x37, x462000, x462001, x462002, x462003 => if x37 = true then (some false) else (if x10 = 0 then (if x462003 = 0 then (if x10 > 0 then (if 0 ≤ (wrap64 (x9 - 1)) then (if (wrap64 (x9 - 1)) < (x0.length : Int) then ((spec_l30Match.f x462003 ((rd_T24 x0 (wrap64 (x9 - 1))).f1)).bind fun t463 => (if t463 = true then (if x11 = 0 then (if x462000 = 0 then (some true) else (if x11 > 0 then (if 0 ≤ (wrap64 (x9 - x2)) then (if (wrap64 (x9 - x2)) < (x0.length : Int) then ((spec_l30Match.f x462000 ((rd_T24 x0 (wrap64 (x9 - x2))).f2)).bind fun t465 => (some t465)) else (none)) else (none)) else (some false))) else (if x11 > 0 then (if 0 ≤ (wrap64 (x9 - x2)) then (if (wrap64 (x9 - x2)) < (x0.length : Int) then ((spec_l30Match.f x462000 ((rd_T24 x0 (wrap64 (x9 - x2))).f2)).bind fun t467 => (some t467)) else (none)) else (none)) else (some false))) else (some false))) else (none)) else (none)) else (if x11 = 0 then (if x462000 = 0 then (some true) else (if x11 > 0 then (if 0 ≤ (wrap64 (x9 - x2)) then (if (wrap64 (x9 - x2)) < (x0.length : Int) then ((spec_l30Match.f x462000 ((rd_T24 x0 (wrap64 (x9 - x2))).f2)).bind fun t469 => (some t469)) else (none)) else (none)) else (some false))) else (if x11 > 0 then (if 0 ≤ (wrap64 (x9 - x2)) then (if (wrap64 (x9 - x2)) < (x0.length : Int) then ((spec_l30Match.f x462000 ((rd_T24 x0 (wrap64 (x9 - x2))).f2)).bind fun t471 => (some t471)) else (none)) else (none)) else (some false)))) else (some false)) else (if x10 > 0 then (if 0 ≤ (wrap64 (x9 - 1)) then (if (wrap64 (x9 - 1)) < (x0.length : Int) then ((spec_l30Match.f x462003 ((rd_T24 x0 (wrap64 (x9 - 1))).f1)).bind fun t473 => (if t473 = true then (if x11 = 0 then (if x462000 = 0 then (some true) else (if x11 > 0 then (if 0 ≤ (wrap64 (x9 - x2)) then (if (wrap64 (x9 - x2)) < (x0.length : Int) then ((spec_l30Match.f x462000 ((rd_T24 x0 (wrap64 (x9 - x2))).f2)).bind fun t475 => (some t475)) else (none)) else (none)) else (some false))) else (if x11 > 0 then (if 0 ≤ (wrap64 (x9 - x2)) then (if (wrap64 (x9 - x2)) < (x0.length : Int) then ((spec_l30Match.f x462000 ((rd_T24 x0 (wrap64 (x9 - x2))).f2)).bind fun t477 => (some t477)) else (none)) else (none)) else (some false))) else (some false))) else (none)) else (none)) else (if x11 = 0 then (if x462000 = 0 then (some true) else (if x11 > 0 then (if 0 ≤ (wrap64 (x9 - x2)) then (if (wrap64 (x9 - x2)) < (x0.length : Int) then ((spec_l30Match.f x462000 ((rd_T24 x0 (wrap64 (x9 - x2))).f2)).bind fun t479 => (some t479)) else (none)) else (none)) else (some false))) else (if x11 > 0 then (if 0 ≤ (wrap64 (x9 - x2)) then (if (wrap64 (x9 - x2)) < (x0.length : Int) then ((spec_l30Match.f x462000 ((rd_T24 x0 (wrap64 (x9 - x2))).f2)).bind fun t481 => (some t481)) else (none)) else (none)) else (some false)))))
def spec_l30Fits.f (k : Nat) (l0 : List (S24)) (a1_0 : Int) (a1_1 : Int) (a1_2 : Int) (a1_3 : Int) (a2 : Int) (a3 : Int) : Option (Bool) := if a2 = 0 then (none) else (if ((a1_1 == 0) != (((l0.length : Int) % a2) == (wrap64 (a2 - 1)))) = true then (spec_l30Fits.j0 k l0 a2 (l0.length : Int) ((l0.length : Int) % a2) (wrap64 ((l0.length : Int) / a2)) true a1_0 a1_1 a1_2 a1_3) else (spec_l30Fits.j0 k l0 a2 (l0.length : Int) ((l0.length : Int) % a2) (wrap64 ((l0.length : Int) / a2)) ((a1_2 == 0) != ((wrap64 ((l0.length : Int) / a2)) == (wrap64 (a3 - 1)))) a1_0 a1_1 a1_2 a1_3))
set_option maxHeartbeats 8000000 in
set_option maxRecDepth 100000 in
theorem spec_l30Fits.calls (k : Nat) (A0 : Option Addr) (c0 : Nat) (l0 : List (S24)) (a1_0 : Int) (a1_1 : Int) (a1_2 : Int) (a1_3 : Int) (a2 : Int) (a3 : Int) (r : Bool) (w : World) (hr0 : Kd.C k24 w A0 l0.length l0) (hc0 : l0.length ≤ c0) (h : spec_l30Fits.f k l0 a1_0 a1_1 a1_2 a1_3 a2 a3 = some r) :
    Calls Try.prog 61 #[.slice A0 l0.length c0, .agg #[.int .i64 a1_0, .int .i64 a1_1, .int .i64 a1_2, .int .i64 a1_3], .int .i64 a2, .int .i64 a3] w fun e w' => e = .returned (.bool r) ∧ Below w.heap.size w w' := by
  have hu24 := Try.underlying24
  have HR0 := Aside0.mk hr0
  have HC0 := Aside0.mk hc0
  clear hr0 hc0
  have HB := Aside0.mk (Below.refl w.heap.size w)
  have H : (if a2 = 0 then (none) else (if ((a1_1 == 0) != (((l0.length : Int) % a2) == (wrap64 (a2 - 1)))) = true then (spec_l30Fits.j0 k l0 a2 (l0.length : Int) ((l0.length : Int) % a2) (wrap64 ((l0.length : Int) / a2)) true a1_0 a1_1 a1_2 a1_3) else (spec_l30Fits.j0 k l0 a2 (l0.length : Int) ((l0.length : Int) % a2) (wrap64 ((l0.length : Int) / a2)) ((a1_2 == 0) != ((wrap64 ((l0.length : Int) / a2)) == (wrap64 (a3 - 1)))) a1_0 a1_1 a1_2 a1_3))) = some r := h
  clear h
  by_cases c5 : a2 = 0
  · rw [if_pos c5] at H
    exact absurd H (by simp)
  · rw [if_neg c5] at H
    have c5b0 : (a2 == 0) = false := beq_eq_false_iff_ne.mpr c5
    have c5b1 : (a2 != 0) = true := bne_iff_ne.mpr c5
    have HC6 := Aside0.mk H
    clear H
    go_enter Try.func61, Try.ntmps61
    go_upto_region 3 with (first | ((with_reducible refine gate_dst (N := 5) rfl ?_); refine box_event ?hg (N := 5) ?hd (cs := #[.int .i64 a1_0, .int .i64 a1_1, .int .i64 a1_2, .int .i64 a1_3]) (t := 24) ?hr ?_; (case hd => rfl); (case hg => rfl); (case hr => first | (go_simp; done) | (go_simp; rfl)); intro gb461 hg w7 hbox hb; have n0_ := Aside0.mk (below_step (by repeat (first | (with_reducible first | exact HB.out | apply below_alloc | apply pw_below_drewN | apply below_drew1) | exact HB.out)) hb); have n1_ := Aside0.mk (hbox); have n2_ := Aside0.mk ((by rw [hg]; exact (below_size (by repeat (first | (with_reducible first | exact HB.out | apply below_alloc | apply pw_below_drewN | apply below_drew1) | exact HB.out))) : w.heap.size ≤ gb461)); have n3_ := Aside0.mk ((by rw [hg]; exact (below_size (by repeat (first | (with_reducible first | exact HB.out | apply below_alloc | apply pw_below_drewN | apply below_drew1) | exact HB.out))) : w.heap.size ≤ gb461)); clear HB; have HB := n0_; have BK461 := n1_; have GW461 := n2_; have GE461 := n3_; clear n0_ n1_ n2_ n3_; clear hb hbox hg))
    repeat (go_quiet (first | ((with_reducible refine gate_dst (N := 5) rfl ?_); refine box_event ?hg (N := 5) ?hd (cs := #[.int .i64 a1_0, .int .i64 a1_1, .int .i64 a1_2, .int .i64 a1_3]) (t := 24) ?hr ?_; (case hd => rfl); (case hg => rfl); (case hr => first | (go_simp; done) | (go_simp; rfl)); intro gb461 hg w7 hbox hb; have n0_ := Aside0.mk (below_step (by repeat (first | (with_reducible first | exact HB.out | apply below_alloc | apply pw_below_drewN | apply below_drew1) | exact HB.out)) hb); have n1_ := Aside0.mk (hbox); have n2_ := Aside0.mk ((by rw [hg]; exact (below_size (by repeat (first | (with_reducible first | exact HB.out | apply below_alloc | apply pw_below_drewN | apply below_drew1) | exact HB.out))) : w.heap.size ≤ gb461)); have n3_ := Aside0.mk ((by rw [hg]; exact (below_size (by repeat (first | (with_reducible first | exact HB.out | apply below_alloc | apply pw_below_drewN | apply below_drew1) | exact HB.out))) : w.heap.size ≤ gb461)); clear HB; have HB := n0_; have BK461 := n1_; have GW461 := n2_; have GE461 := n3_; clear n0_ n1_ n2_ n3_; clear hb hbox hg)); go_upto_region 3 with (first | ((with_reducible refine gate_dst (N := 5) rfl ?_); refine box_event ?hg (N := 5) ?hd (cs := #[.int .i64 a1_0, .int .i64 a1_1, .int .i64 a1_2, .int .i64 a1_3]) (t := 24) ?hr ?_; (case hd => rfl); (case hg => rfl); (case hr => first | (go_simp; done) | (go_simp; rfl)); intro gb461 hg w7 hbox hb; have n0_ := Aside0.mk (below_step (by repeat (first | (with_reducible first | exact HB.out | apply below_alloc | apply pw_below_drewN | apply below_drew1) | exact HB.out)) hb); have n1_ := Aside0.mk (hbox); have n2_ := Aside0.mk ((by rw [hg]; exact (below_size (by repeat (first | (with_reducible first | exact HB.out | apply below_alloc | apply pw_below_drewN | apply below_drew1) | exact HB.out))) : w.heap.size ≤ gb461)); have n3_ := Aside0.mk ((by rw [hg]; exact (below_size (by repeat (first | (with_reducible first | exact HB.out | apply below_alloc | apply pw_below_drewN | apply below_drew1) | exact HB.out))) : w.heap.size ≤ gb461)); clear HB; have HB := n0_; have BK461 := n1_; have GW461 := n2_; have GE461 := n3_; clear n0_ n1_ n2_ n3_; clear hb hbox hg)))
    (try simp only [Act.put, List.setIfInBounds_toArray, List.set_cons_zero, List.set_cons_succ])
    go_cut [37] (fun v37 wc => ∃ (kq : Nat) (x37_5 : Bool), v37 = .bool x37_5 ∧ Aside0 (spec_l30Fits.j0 kq l0 a2 (l0.length : Int) ((l0.length : Int) % a2) (wrap64 ((l0.length : Int) / a2)) x37_5 a1_0 a1_1 a1_2 a1_3 = some r) ∧ Aside0 (kq ≤ k) ∧ Aside0 (wc.heap[gb461]? = some (.cells #[.int .i64 a1_0, .int .i64 a1_1, .int .i64 a1_2, .int .i64 a1_3] 24 (0, 0))) ∧ Aside0 (Below w.heap.size w wc))
    case first =>
      have H := HC6.out
      clear HC6
      by_cases c8 : ((a1_1 == 0) != (((l0.length : Int) % a2) == (wrap64 (a2 - 1)))) = true
      · rw [if_pos c8] at H
        have c8b0 : ((a1_1 == 0) != (((l0.length : Int) % a2) == (wrap64 (a2 - 1)))) = true := c8
        (try (have c8b1 : decide ((a1_1 == 0) = (((l0.length : Int) % a2) == (wrap64 (a2 - 1)))) = false := by simpa using c8))
        (try (have c8b2 : ((a1_1 == 0) == (((l0.length : Int) % a2) == (wrap64 (a2 - 1)))) = false := by simpa using c8))
        (try (have c8b3 : ¬ ((a1_1 == 0) = (((l0.length : Int) % a2) == (wrap64 (a2 - 1)))) := by simpa using c8))
        clear c8
        (first | rw [c8b0] | (simp only [i64_w, i32_w]; rw [c8b0]) | skip)
        have H' := Aside0.mk H
        clear H
        have hcz9_0 : w7.cell? ⟨gb461, 0, none⟩ = some (.int .i64 a1_0) := (blk_cell BK461.out 0).trans rfl
        have hcz9_1 : w7.cell? ⟨gb461, 1, none⟩ = some (.int .i64 a1_1) := (blk_cell BK461.out 1).trans rfl
        have hcz9_2 : w7.cell? ⟨gb461, 2, none⟩ = some (.int .i64 a1_2) := (blk_cell BK461.out 2).trans rfl
        have hcz9_3 : w7.cell? ⟨gb461, 3, none⟩ = some (.int .i64 a1_3) := (blk_cell BK461.out 3).trans rfl
        have hfz9_0 := blk_frozen BK461.out 0
        have hfz9_1 := blk_frozen BK461.out 1
        have hfz9_2 := blk_frozen BK461.out 2
        have hfz9_3 := blk_frozen BK461.out 3
        go_wp2
        repeat (go_quiet (fail); try go_wp2)
        go_meet
        case rel => exact ⟨_, (true), (by first | rfl | (simp; done) | (simp [*]; done)), H', ⟨by first | omega | exact Nat.le_refl _⟩, ⟨by (with_reducible repeat (first | refine blk_drewN ?_ _ | refine blk_drew ?_ | refine blk_alloc ?_ _)); exact BK461.out⟩, ⟨by repeat (first | (with_reducible first | exact HB.out | apply below_alloc | apply pw_below_drewN | apply below_drew1 | refine below_set ?_ GE461.out) | exact HB.out)⟩⟩
      · rw [if_neg c8] at H
        have c8b0 : ((a1_1 == 0) != (((l0.length : Int) % a2) == (wrap64 (a2 - 1)))) = false := by simpa using c8
        (try (have c8b1 : decide ((a1_1 == 0) = (((l0.length : Int) % a2) == (wrap64 (a2 - 1)))) = true := by simpa using c8))
        (try (have c8b2 : ((a1_1 == 0) == (((l0.length : Int) % a2) == (wrap64 (a2 - 1)))) = true := by simpa using c8))
        clear c8
        (first | rw [c8b0] | (simp only [i64_w, i32_w]; rw [c8b0]) | skip)
        have H' := Aside0.mk H
        clear H
        have hcz10_0 : w7.cell? ⟨gb461, 0, none⟩ = some (.int .i64 a1_0) := (blk_cell BK461.out 0).trans rfl
        have hcz10_1 : w7.cell? ⟨gb461, 1, none⟩ = some (.int .i64 a1_1) := (blk_cell BK461.out 1).trans rfl
        have hcz10_2 : w7.cell? ⟨gb461, 2, none⟩ = some (.int .i64 a1_2) := (blk_cell BK461.out 2).trans rfl
        have hcz10_3 : w7.cell? ⟨gb461, 3, none⟩ = some (.int .i64 a1_3) := (blk_cell BK461.out 3).trans rfl
        have hfz10_0 := blk_frozen BK461.out 0
        have hfz10_1 := blk_frozen BK461.out 1
        have hfz10_2 := blk_frozen BK461.out 2
        have hfz10_3 := blk_frozen BK461.out 3
        go_wp2
        repeat (go_quiet (fail); try go_wp2)
        go_meet
        case rel => exact ⟨_, (((a1_2 == 0) != ((wrap64 ((l0.length : Int) / a2)) == (wrap64 (a3 - 1))))), (by first | rfl | (simp; done) | (simp [*]; done)), H', ⟨by first | omega | exact Nat.le_refl _⟩, ⟨by (with_reducible repeat (first | refine blk_drewN ?_ _ | refine blk_drew ?_ | refine blk_alloc ?_ _)); exact BK461.out⟩, ⟨by repeat (first | (with_reducible first | exact HB.out | apply below_alloc | apply pw_below_drewN | apply below_drew1 | refine below_set ?_ GE461.out) | exact HB.out)⟩⟩
    case rest =>
      clear HC6
      try clear p2
      try clear c5
      try clear c5b0
      try clear c5b1
      try clear c6
      try clear p6
      try clear c8
      try clear c8b0
      try clear c8b1
      try clear c8b2
      try clear hcz10_0
      try clear hcz10_1
      try clear hcz10_2
      try clear hcz10_3
      try clear hcz9_0
      try clear hcz9_1
      try clear hcz9_2
      try clear hcz9_3
      try clear hfz10_0
      try clear hfz10_1
      try clear hfz10_2
      try clear hfz10_3
      try clear hfz9_0
      try clear hfz9_1
      try clear hfz9_2
      try clear hfz9_3
      obtain ⟨kq, x37_5, rfl, HA, HJ5, BK461, HB⟩ := hcut
      cases kq with
      | zero => exact absurd HA.out (by simp [spec_l30Fits.j0])
      | succ kj5 =>
        have H := HA.out
        clear HA
        simp only [spec_l30Fits.j0] at H
        by_cases c11 : x37_5 = true
        · subst c11
          have H1 : (some false) = some r := by rw [if_pos rfl] at H; exact H
          clear H
          have H := H1
          clear H1
          obtain rfl := Option.some.inj H
          go_wp2
          repeat (go_quiet (fail); try go_wp2)
          go_ret
          exact ⟨by first | rfl | (simp [errW_none, errW_some] <;> rfl) | (simp [*, errW_none, errW_some] <;> rfl), by repeat (first | (with_reducible first | exact HB.out | apply below_alloc | apply pw_below_drewN | apply below_drew1 | refine below_set ?_ GE461.out) | exact HB.out)⟩
        · replace c11 := Bool.eq_false_iff.mpr c11
          subst c11
          have H1 : (if ((l0.length : Int) % a2) = 0 then (if a1_3 = 0 then (if ((l0.length : Int) % a2) > 0 then (if 0 ≤ (wrap64 ((l0.length : Int) - 1)) then (if (wrap64 ((l0.length : Int) - 1)) < (l0.length : Int) then ((spec_l30Match.f a1_3 ((rd_T24 l0 (wrap64 ((l0.length : Int) - 1))).f1)).bind fun t463 => (if t463 = true then (if (wrap64 ((l0.length : Int) / a2)) = 0 then (if a1_0 = 0 then (some true) else (if (wrap64 ((l0.length : Int) / a2)) > 0 then (if 0 ≤ (wrap64 ((l0.length : Int) - a2)) then (if (wrap64 ((l0.length : Int) - a2)) < (l0.length : Int) then ((spec_l30Match.f a1_0 ((rd_T24 l0 (wrap64 ((l0.length : Int) - a2))).f2)).bind fun t465 => (some t465)) else (none)) else (none)) else (some false))) else (if (wrap64 ((l0.length : Int) / a2)) > 0 then (if 0 ≤ (wrap64 ((l0.length : Int) - a2)) then (if (wrap64 ((l0.length : Int) - a2)) < (l0.length : Int) then ((spec_l30Match.f a1_0 ((rd_T24 l0 (wrap64 ((l0.length : Int) - a2))).f2)).bind fun t467 => (some t467)) else (none)) else (none)) else (some false))) else (some false))) else (none)) else (none)) else (if (wrap64 ((l0.length : Int) / a2)) = 0 then (if a1_0 = 0 then (some true) else (if (wrap64 ((l0.length : Int) / a2)) > 0 then (if 0 ≤ (wrap64 ((l0.length : Int) - a2)) then (if (wrap64 ((l0.length : Int) - a2)) < (l0.length : Int) then ((spec_l30Match.f a1_0 ((rd_T24 l0 (wrap64 ((l0.length : Int) - a2))).f2)).bind fun t469 => (some t469)) else (none)) else (none)) else (some false))) else (if (wrap64 ((l0.length : Int) / a2)) > 0 then (if 0 ≤ (wrap64 ((l0.length : Int) - a2)) then (if (wrap64 ((l0.length : Int) - a2)) < (l0.length : Int) then ((spec_l30Match.f a1_0 ((rd_T24 l0 (wrap64 ((l0.length : Int) - a2))).f2)).bind fun t471 => (some t471)) else (none)) else (none)) else (some false)))) else (some false)) else (if ((l0.length : Int) % a2) > 0 then (if 0 ≤ (wrap64 ((l0.length : Int) - 1)) then (if (wrap64 ((l0.length : Int) - 1)) < (l0.length : Int) then ((spec_l30Match.f a1_3 ((rd_T24 l0 (wrap64 ((l0.length : Int) - 1))).f1)).bind fun t473 => (if t473 = true then (if (wrap64 ((l0.length : Int) / a2)) = 0 then (if a1_0 = 0 then (some true) else (if (wrap64 ((l0.length : Int) / a2)) > 0 then (if 0 ≤ (wrap64 ((l0.length : Int) - a2)) then (if (wrap64 ((l0.length : Int) - a2)) < (l0.length : Int) then ((spec_l30Match.f a1_0 ((rd_T24 l0 (wrap64 ((l0.length : Int) - a2))).f2)).bind fun t475 => (some t475)) else (none)) else (none)) else (some false))) else (if (wrap64 ((l0.length : Int) / a2)) > 0 then (if 0 ≤ (wrap64 ((l0.length : Int) - a2)) then (if (wrap64 ((l0.length : Int) - a2)) < (l0.length : Int) then ((spec_l30Match.f a1_0 ((rd_T24 l0 (wrap64 ((l0.length : Int) - a2))).f2)).bind fun t477 => (some t477)) else (none)) else (none)) else (some false))) else (some false))) else (none)) else (none)) else (if (wrap64 ((l0.length : Int) / a2)) = 0 then (if a1_0 = 0 then (some true) else (if (wrap64 ((l0.length : Int) / a2)) > 0 then (if 0 ≤ (wrap64 ((l0.length : Int) - a2)) then (if (wrap64 ((l0.length : Int) - a2)) < (l0.length : Int) then ((spec_l30Match.f a1_0 ((rd_T24 l0 (wrap64 ((l0.length : Int) - a2))).f2)).bind fun t479 => (some t479)) else (none)) else (none)) else (some false))) else (if (wrap64 ((l0.length : Int) / a2)) > 0 then (if 0 ≤ (wrap64 ((l0.length : Int) - a2)) then (if (wrap64 ((l0.length : Int) - a2)) < (l0.length : Int) then ((spec_l30Match.f a1_0 ((rd_T24 l0 (wrap64 ((l0.length : Int) - a2))).f2)).bind fun t481 => (some t481)) else (none)) else (none)) else (some false))))) = some r := by rw [if_neg (show ¬ (false = true) by decide)] at H; exact H
          clear H
          have H := H1
          clear H1
          by_cases c12 : ((l0.length : Int) % a2) = 0
          · rw [if_pos c12] at H
            have c12b0 : (((l0.length : Int) % a2) == 0) = true := beq_iff_eq.mpr c12
            have c12b1 : (((l0.length : Int) % a2) != 0) = false := bne_eq_false_iff_eq.mpr c12
            clear c12
            by_cases c13 : a1_3 = 0
            · rw [if_pos c13] at H
              have c13b0 : (a1_3 == 0) = true := beq_iff_eq.mpr c13
              have c13b1 : (a1_3 != 0) = false := bne_eq_false_iff_eq.mpr c13
              clear c13
              by_cases c14 : ((l0.length : Int) % a2) > 0
              · rw [if_pos c14] at H
                have c14b0 : decide (0 < ((l0.length : Int) % a2)) = true := decide_eq_true c14
                clear c14
                obtain ⟨ji15, hji15⟩ : ∃ j_ : Int, (wrap64 ((l0.length : Int) - 1)) = j_ := ⟨_, rfl⟩
                replace H : (if 0 ≤ (ji15) then (if (ji15) < (l0.length : Int) then ((spec_l30Match.f a1_3 ((rd_T24 l0 (ji15)).f1)).bind fun t463 => (if t463 = true then (if (wrap64 ((l0.length : Int) / a2)) = 0 then (if a1_0 = 0 then (some true) else (if (wrap64 ((l0.length : Int) / a2)) > 0 then (if 0 ≤ (wrap64 ((l0.length : Int) - a2)) then (if (wrap64 ((l0.length : Int) - a2)) < (l0.length : Int) then ((spec_l30Match.f a1_0 ((rd_T24 l0 (wrap64 ((l0.length : Int) - a2))).f2)).bind fun t465 => (some t465)) else (none)) else (none)) else (some false))) else (if (wrap64 ((l0.length : Int) / a2)) > 0 then (if 0 ≤ (wrap64 ((l0.length : Int) - a2)) then (if (wrap64 ((l0.length : Int) - a2)) < (l0.length : Int) then ((spec_l30Match.f a1_0 ((rd_T24 l0 (wrap64 ((l0.length : Int) - a2))).f2)).bind fun t467 => (some t467)) else (none)) else (none)) else (some false))) else (some false))) else (none)) else (none)) = some r := by first | (rw [hji15] at H; exact H) | (simp only [hji15] at H ⊢; exact H)
                have hji15w : (IntKind.i64.wrap ((l0.length : Int) - 1)) = ji15 := (i64_w _).trans hji15
                by_cases c16 : 0 ≤ (ji15)
                · rw [if_pos c16] at H
                  have c16b0 : decide (0 ≤ (ji15)) = true := decide_eq_true c16
                  clear c16
                  by_cases c17 : (ji15) < (l0.length : Int)
                  · rw [if_pos c17] at H
                    have c17b0 : decide ((ji15) < (l0.length : Int)) = true := decide_eq_true c17
                    clear c17
                    replace H := Option.bind_eq_some_iff.mp H
                    obtain ⟨t463, A180, H⟩ := H
                    replace H : (if t463 = true then (if (wrap64 ((l0.length : Int) / a2)) = 0 then (if a1_0 = 0 then (some true) else (if (wrap64 ((l0.length : Int) / a2)) > 0 then (if 0 ≤ (wrap64 ((l0.length : Int) - a2)) then (if (wrap64 ((l0.length : Int) - a2)) < (l0.length : Int) then ((spec_l30Match.f a1_0 ((rd_T24 l0 (wrap64 ((l0.length : Int) - a2))).f2)).bind fun t465 => (some t465)) else (none)) else (none)) else (some false))) else (if (wrap64 ((l0.length : Int) / a2)) > 0 then (if 0 ≤ (wrap64 ((l0.length : Int) - a2)) then (if (wrap64 ((l0.length : Int) - a2)) < (l0.length : Int) then ((spec_l30Match.f a1_0 ((rd_T24 l0 (wrap64 ((l0.length : Int) - a2))).f2)).bind fun t467 => (some t467)) else (none)) else (none)) else (some false))) else (some false)) = some r := H
                    have A18 := Aside0.mk A180
                    clear A180
                    by_cases c19 : t463 = true
                    · subst c19
                      have H1 : (if (wrap64 ((l0.length : Int) / a2)) = 0 then (if a1_0 = 0 then (some true) else (if (wrap64 ((l0.length : Int) / a2)) > 0 then (if 0 ≤ (wrap64 ((l0.length : Int) - a2)) then (if (wrap64 ((l0.length : Int) - a2)) < (l0.length : Int) then ((spec_l30Match.f a1_0 ((rd_T24 l0 (wrap64 ((l0.length : Int) - a2))).f2)).bind fun t465 => (some t465)) else (none)) else (none)) else (some false))) else (if (wrap64 ((l0.length : Int) / a2)) > 0 then (if 0 ≤ (wrap64 ((l0.length : Int) - a2)) then (if (wrap64 ((l0.length : Int) - a2)) < (l0.length : Int) then ((spec_l30Match.f a1_0 ((rd_T24 l0 (wrap64 ((l0.length : Int) - a2))).f2)).bind fun t467 => (some t467)) else (none)) else (none)) else (some false))) = some r := by rw [if_pos rfl] at H; exact H
                      clear H
                      have H := H1
                      clear H1
                      by_cases c20 : (wrap64 ((l0.length : Int) / a2)) = 0
                      · rw [if_pos c20] at H
                        have c20b0 : ((wrap64 ((l0.length : Int) / a2)) == 0) = true := beq_iff_eq.mpr c20
                        have c20b1 : ((wrap64 ((l0.length : Int) / a2)) != 0) = false := bne_eq_false_iff_eq.mpr c20
                        clear c20
                        by_cases c21 : a1_0 = 0
                        · rw [if_pos c21] at H
                          have c21b0 : (a1_0 == 0) = true := beq_iff_eq.mpr c21
                          have c21b1 : (a1_0 != 0) = false := bne_eq_false_iff_eq.mpr c21
                          clear c21
                          obtain rfl := Option.some.inj H
                          have hcz22_0 : wc.cell? ⟨gb461, 0, none⟩ = some (.int .i64 a1_0) := (blk_cell BK461.out 0).trans rfl
                          have hcz22_1 : wc.cell? ⟨gb461, 1, none⟩ = some (.int .i64 a1_1) := (blk_cell BK461.out 1).trans rfl
                          have hcz22_2 : wc.cell? ⟨gb461, 2, none⟩ = some (.int .i64 a1_2) := (blk_cell BK461.out 2).trans rfl
                          have hcz22_3 : wc.cell? ⟨gb461, 3, none⟩ = some (.int .i64 a1_3) := (blk_cell BK461.out 3).trans rfl
                          have hfz22_0 := blk_frozen BK461.out 0
                          have hfz22_1 := blk_frozen BK461.out 1
                          have hfz22_2 := blk_frozen BK461.out 2
                          have hfz22_3 := blk_frozen BK461.out 3
                          have p462 : 0 ≤ ((ji15) : Int) := of_decide_eq_true (by first | (with_reducible assumption) | assumption)
                          have q462 : (ji15) < (l0.length : Int) := of_decide_eq_true (by first | (with_reducible assumption) | assumption)
                          obtain ⟨ad462, e462, hx462_0, hx462_1, hx462_2, hx462_3⟩ := at_T24 HR0.out (ji15) p462 q462
                          cases e462
                          replace hx462_0 := (HB.out.cell (World.block_lt_of_cell? w _ hx462_0)).trans hx462_0
                          replace hx462_1 := (HB.out.cell (World.block_lt_of_cell? w _ hx462_1)).trans hx462_1
                          replace hx462_2 := (HB.out.cell (World.block_lt_of_cell? w _ hx462_2)).trans hx462_2
                          replace hx462_3 := (HB.out.cell (World.block_lt_of_cell? w _ hx462_3)).trans hx462_3
                          replace p462 := eq_true p462
                          replace q462 := eq_true q462
                          go_wp2_with (first | (go_at_call 76; (with_reducible refine (spec_l30Match.calls a1_3 ((rd_T24 l0 (ji15)).f1) true _ A18.out).mono ?_); rintro e w' ⟨rfl, ⟨nd, rfl⟩⟩; (try first | exact ⟨rfl, _, World.drewN_drewN _ _ _⟩ | exact ⟨rfl, _, Eq.trans (World.drewN_drewN _ _ _) (congrArg (World.drewN _) (Nat.add_assoc _ _ _))⟩)))
                          repeat (go_quiet (first | (go_at_call 76; (with_reducible refine (spec_l30Match.calls a1_3 ((rd_T24 l0 (ji15)).f1) true _ A18.out).mono ?_); rintro e w' ⟨rfl, ⟨nd, rfl⟩⟩; (try first | exact ⟨rfl, _, World.drewN_drewN _ _ _⟩ | exact ⟨rfl, _, Eq.trans (World.drewN_drewN _ _ _) (congrArg (World.drewN _) (Nat.add_assoc _ _ _))⟩))); try go_wp2_with (first | (go_at_call 76; (with_reducible refine (spec_l30Match.calls a1_3 ((rd_T24 l0 (ji15)).f1) true _ A18.out).mono ?_); rintro e w' ⟨rfl, ⟨nd, rfl⟩⟩; (try first | exact ⟨rfl, _, World.drewN_drewN _ _ _⟩ | exact ⟨rfl, _, Eq.trans (World.drewN_drewN _ _ _) (congrArg (World.drewN _) (Nat.add_assoc _ _ _))⟩))))
                          go_ret
                          exact ⟨by first | rfl | (simp [errW_none, errW_some] <;> rfl) | (simp only [← hji15]; first | rfl | (simp [errW_none, errW_some] <;> rfl)) | (simp [*, errW_none, errW_some] <;> rfl), by repeat (first | (with_reducible first | exact HB.out | apply below_alloc | apply pw_below_drewN | apply below_drew1 | refine below_set ?_ GE461.out) | exact HB.out)⟩
                        · rw [if_neg c21] at H
                          have c21b0 : (a1_0 == 0) = false := beq_eq_false_iff_ne.mpr c21
                          have c21b1 : (a1_0 != 0) = true := bne_iff_ne.mpr c21
                          by_cases c23 : (wrap64 ((l0.length : Int) / a2)) > 0
                          · rw [if_pos c23] at H
                            have c23b0 : decide (0 < (wrap64 ((l0.length : Int) / a2))) = true := decide_eq_true c23
                            clear c23
                            obtain ⟨ji24, hji24⟩ : ∃ j_ : Int, (wrap64 ((l0.length : Int) - a2)) = j_ := ⟨_, rfl⟩
                            replace H : (if 0 ≤ (ji24) then (if (ji24) < (l0.length : Int) then ((spec_l30Match.f a1_0 ((rd_T24 l0 (ji24)).f2)).bind fun t465 => (some t465)) else (none)) else (none)) = some r := by first | (rw [hji24] at H; exact H) | (simp only [hji24] at H ⊢; exact H)
                            (try rw [hji24] at A18)
                            have hji24w : (IntKind.i64.wrap ((l0.length : Int) - a2)) = ji24 := (i64_w _).trans hji24
                            by_cases c25 : 0 ≤ (ji24)
                            · rw [if_pos c25] at H
                              have c25b0 : decide (0 ≤ (ji24)) = true := decide_eq_true c25
                              clear c25
                              by_cases c26 : (ji24) < (l0.length : Int)
                              · rw [if_pos c26] at H
                                have c26b0 : decide ((ji24) < (l0.length : Int)) = true := decide_eq_true c26
                                clear c26
                                replace H := Option.bind_eq_some_iff.mp H
                                obtain ⟨t465, A270, H⟩ := H
                                replace H : (some t465) = some r := H
                                have A27 := Aside0.mk A270
                                clear A270
                                obtain rfl := Option.some.inj H
                                have hcz28_0 : wc.cell? ⟨gb461, 0, none⟩ = some (.int .i64 a1_0) := (blk_cell BK461.out 0).trans rfl
                                have hcz28_1 : wc.cell? ⟨gb461, 1, none⟩ = some (.int .i64 a1_1) := (blk_cell BK461.out 1).trans rfl
                                have hcz28_2 : wc.cell? ⟨gb461, 2, none⟩ = some (.int .i64 a1_2) := (blk_cell BK461.out 2).trans rfl
                                have hcz28_3 : wc.cell? ⟨gb461, 3, none⟩ = some (.int .i64 a1_3) := (blk_cell BK461.out 3).trans rfl
                                have hfz28_0 := blk_frozen BK461.out 0
                                have hfz28_1 := blk_frozen BK461.out 1
                                have hfz28_2 := blk_frozen BK461.out 2
                                have hfz28_3 := blk_frozen BK461.out 3
                                have p462 : 0 ≤ ((ji15) : Int) := of_decide_eq_true (by first | (with_reducible assumption) | assumption)
                                have q462 : (ji15) < (l0.length : Int) := of_decide_eq_true (by first | (with_reducible assumption) | assumption)
                                obtain ⟨ad462, e462, hx462_0, hx462_1, hx462_2, hx462_3⟩ := at_T24 HR0.out (ji15) p462 q462
                                cases e462
                                replace hx462_0 := (HB.out.cell (World.block_lt_of_cell? w _ hx462_0)).trans hx462_0
                                replace hx462_1 := (HB.out.cell (World.block_lt_of_cell? w _ hx462_1)).trans hx462_1
                                replace hx462_2 := (HB.out.cell (World.block_lt_of_cell? w _ hx462_2)).trans hx462_2
                                replace hx462_3 := (HB.out.cell (World.block_lt_of_cell? w _ hx462_3)).trans hx462_3
                                replace p462 := eq_true p462
                                replace q462 := eq_true q462
                                go_wp2_with (first | (go_at_call 76; (with_reducible refine (spec_l30Match.calls a1_3 ((rd_T24 l0 (ji15)).f1) true _ A18.out).mono ?_); rintro e w' ⟨rfl, ⟨nd, rfl⟩⟩; (try first | exact ⟨rfl, _, World.drewN_drewN _ _ _⟩ | exact ⟨rfl, _, Eq.trans (World.drewN_drewN _ _ _) (congrArg (World.drewN _) (Nat.add_assoc _ _ _))⟩); have p464 : 0 ≤ ((ji24) : Int) := of_decide_eq_true (by first | (with_reducible assumption) | assumption); have q464 : (ji24) < (l0.length : Int) := of_decide_eq_true (by first | (with_reducible assumption) | assumption); obtain ⟨ad464, e464, hx464_0, hx464_1, hx464_2, hx464_3⟩ := at_T24 HR0.out (ji24) p464 q464; obtain rfl : ad462 = ad464 := (by injection e464); replace hx464_0 := (HB.out.cell (World.block_lt_of_cell? w _ hx464_0)).trans hx464_0; replace hx464_1 := (HB.out.cell (World.block_lt_of_cell? w _ hx464_1)).trans hx464_1; replace hx464_2 := (HB.out.cell (World.block_lt_of_cell? w _ hx464_2)).trans hx464_2; replace hx464_3 := (HB.out.cell (World.block_lt_of_cell? w _ hx464_3)).trans hx464_3; replace p464 := eq_true p464; replace q464 := eq_true q464) | (go_at_call 76; (with_reducible refine (spec_l30Match.calls a1_0 ((rd_T24 l0 (ji24)).f2) t465 _ A27.out).mono ?_); rintro e w' ⟨rfl, ⟨nd, rfl⟩⟩; (try first | exact ⟨rfl, _, World.drewN_drewN _ _ _⟩ | exact ⟨rfl, _, Eq.trans (World.drewN_drewN _ _ _) (congrArg (World.drewN _) (Nat.add_assoc _ _ _))⟩)))
                                repeat (go_quiet (first | (go_at_call 76; (with_reducible refine (spec_l30Match.calls a1_3 ((rd_T24 l0 (ji15)).f1) true _ A18.out).mono ?_); rintro e w' ⟨rfl, ⟨nd, rfl⟩⟩; (try first | exact ⟨rfl, _, World.drewN_drewN _ _ _⟩ | exact ⟨rfl, _, Eq.trans (World.drewN_drewN _ _ _) (congrArg (World.drewN _) (Nat.add_assoc _ _ _))⟩); have p464 : 0 ≤ ((ji24) : Int) := of_decide_eq_true (by first | (with_reducible assumption) | assumption); have q464 : (ji24) < (l0.length : Int) := of_decide_eq_true (by first | (with_reducible assumption) | assumption); obtain ⟨ad464, e464, hx464_0, hx464_1, hx464_2, hx464_3⟩ := at_T24 HR0.out (ji24) p464 q464; obtain rfl : ad462 = ad464 := (by injection e464); replace hx464_0 := (HB.out.cell (World.block_lt_of_cell? w _ hx464_0)).trans hx464_0; replace hx464_1 := (HB.out.cell (World.block_lt_of_cell? w _ hx464_1)).trans hx464_1; replace hx464_2 := (HB.out.cell (World.block_lt_of_cell? w _ hx464_2)).trans hx464_2; replace hx464_3 := (HB.out.cell (World.block_lt_of_cell? w _ hx464_3)).trans hx464_3; replace p464 := eq_true p464; replace q464 := eq_true q464) | (go_at_call 76; (with_reducible refine (spec_l30Match.calls a1_0 ((rd_T24 l0 (ji24)).f2) t465 _ A27.out).mono ?_); rintro e w' ⟨rfl, ⟨nd, rfl⟩⟩; (try first | exact ⟨rfl, _, World.drewN_drewN _ _ _⟩ | exact ⟨rfl, _, Eq.trans (World.drewN_drewN _ _ _) (congrArg (World.drewN _) (Nat.add_assoc _ _ _))⟩))); try go_wp2_with (first | (go_at_call 76; (with_reducible refine (spec_l30Match.calls a1_3 ((rd_T24 l0 (ji15)).f1) true _ A18.out).mono ?_); rintro e w' ⟨rfl, ⟨nd, rfl⟩⟩; (try first | exact ⟨rfl, _, World.drewN_drewN _ _ _⟩ | exact ⟨rfl, _, Eq.trans (World.drewN_drewN _ _ _) (congrArg (World.drewN _) (Nat.add_assoc _ _ _))⟩); have p464 : 0 ≤ ((ji24) : Int) := of_decide_eq_true (by first | (with_reducible assumption) | assumption); have q464 : (ji24) < (l0.length : Int) := of_decide_eq_true (by first | (with_reducible assumption) | assumption); obtain ⟨ad464, e464, hx464_0, hx464_1, hx464_2, hx464_3⟩ := at_T24 HR0.out (ji24) p464 q464; obtain rfl : ad462 = ad464 := (by injection e464); replace hx464_0 := (HB.out.cell (World.block_lt_of_cell? w _ hx464_0)).trans hx464_0; replace hx464_1 := (HB.out.cell (World.block_lt_of_cell? w _ hx464_1)).trans hx464_1; replace hx464_2 := (HB.out.cell (World.block_lt_of_cell? w _ hx464_2)).trans hx464_2; replace hx464_3 := (HB.out.cell (World.block_lt_of_cell? w _ hx464_3)).trans hx464_3; replace p464 := eq_true p464; replace q464 := eq_true q464) | (go_at_call 76; (with_reducible refine (spec_l30Match.calls a1_0 ((rd_T24 l0 (ji24)).f2) t465 _ A27.out).mono ?_); rintro e w' ⟨rfl, ⟨nd, rfl⟩⟩; (try first | exact ⟨rfl, _, World.drewN_drewN _ _ _⟩ | exact ⟨rfl, _, Eq.trans (World.drewN_drewN _ _ _) (congrArg (World.drewN _) (Nat.add_assoc _ _ _))⟩))))
                                go_ret
                                exact ⟨by first | rfl | (simp [errW_none, errW_some] <;> rfl) | (simp only [← hji15, ← hji24]; first | rfl | (simp [errW_none, errW_some] <;> rfl)) | (simp [*, errW_none, errW_some] <;> rfl), by repeat (first | (with_reducible first | exact HB.out | apply below_alloc | apply pw_below_drewN | apply below_drew1 | refine below_set ?_ GE461.out) | exact HB.out)⟩
                              · rw [if_neg c26] at H
                                exact absurd H (by simp)
                            · rw [if_neg c25] at H
                              exact absurd H (by simp)
                          · rw [if_neg c23] at H
                            have c23b0 : decide (0 < (wrap64 ((l0.length : Int) / a2))) = false := decide_eq_false c23
                            clear c23
                            obtain rfl := Option.some.inj H
                            have hcz29_0 : wc.cell? ⟨gb461, 0, none⟩ = some (.int .i64 a1_0) := (blk_cell BK461.out 0).trans rfl
                            have hcz29_1 : wc.cell? ⟨gb461, 1, none⟩ = some (.int .i64 a1_1) := (blk_cell BK461.out 1).trans rfl
                            have hcz29_2 : wc.cell? ⟨gb461, 2, none⟩ = some (.int .i64 a1_2) := (blk_cell BK461.out 2).trans rfl
                            have hcz29_3 : wc.cell? ⟨gb461, 3, none⟩ = some (.int .i64 a1_3) := (blk_cell BK461.out 3).trans rfl
                            have hfz29_0 := blk_frozen BK461.out 0
                            have hfz29_1 := blk_frozen BK461.out 1
                            have hfz29_2 := blk_frozen BK461.out 2
                            have hfz29_3 := blk_frozen BK461.out 3
                            have p462 : 0 ≤ ((ji15) : Int) := of_decide_eq_true (by first | (with_reducible assumption) | assumption)
                            have q462 : (ji15) < (l0.length : Int) := of_decide_eq_true (by first | (with_reducible assumption) | assumption)
                            obtain ⟨ad462, e462, hx462_0, hx462_1, hx462_2, hx462_3⟩ := at_T24 HR0.out (ji15) p462 q462
                            cases e462
                            replace hx462_0 := (HB.out.cell (World.block_lt_of_cell? w _ hx462_0)).trans hx462_0
                            replace hx462_1 := (HB.out.cell (World.block_lt_of_cell? w _ hx462_1)).trans hx462_1
                            replace hx462_2 := (HB.out.cell (World.block_lt_of_cell? w _ hx462_2)).trans hx462_2
                            replace hx462_3 := (HB.out.cell (World.block_lt_of_cell? w _ hx462_3)).trans hx462_3
                            replace p462 := eq_true p462
                            replace q462 := eq_true q462
                            go_wp2_with (first | (go_at_call 76; (with_reducible refine (spec_l30Match.calls a1_3 ((rd_T24 l0 (ji15)).f1) true _ A18.out).mono ?_); rintro e w' ⟨rfl, ⟨nd, rfl⟩⟩; (try first | exact ⟨rfl, _, World.drewN_drewN _ _ _⟩ | exact ⟨rfl, _, Eq.trans (World.drewN_drewN _ _ _) (congrArg (World.drewN _) (Nat.add_assoc _ _ _))⟩)))
                            repeat (go_quiet (first | (go_at_call 76; (with_reducible refine (spec_l30Match.calls a1_3 ((rd_T24 l0 (ji15)).f1) true _ A18.out).mono ?_); rintro e w' ⟨rfl, ⟨nd, rfl⟩⟩; (try first | exact ⟨rfl, _, World.drewN_drewN _ _ _⟩ | exact ⟨rfl, _, Eq.trans (World.drewN_drewN _ _ _) (congrArg (World.drewN _) (Nat.add_assoc _ _ _))⟩))); try go_wp2_with (first | (go_at_call 76; (with_reducible refine (spec_l30Match.calls a1_3 ((rd_T24 l0 (ji15)).f1) true _ A18.out).mono ?_); rintro e w' ⟨rfl, ⟨nd, rfl⟩⟩; (try first | exact ⟨rfl, _, World.drewN_drewN _ _ _⟩ | exact ⟨rfl, _, Eq.trans (World.drewN_drewN _ _ _) (congrArg (World.drewN _) (Nat.add_assoc _ _ _))⟩))))
                            go_ret
                            exact ⟨by first | rfl | (simp [errW_none, errW_some] <;> rfl) | (simp only [← hji15]; first | rfl | (simp [errW_none, errW_some] <;> rfl)) | (simp [*, errW_none, errW_some] <;> rfl), by repeat (first | (with_reducible first | exact HB.out | apply below_alloc | apply pw_below_drewN | apply below_drew1 | refine below_set ?_ GE461.out) | exact HB.out)⟩
                      · rw [if_neg c20] at H
                        have c20b0 : ((wrap64 ((l0.length : Int) / a2)) == 0) = false := beq_eq_false_iff_ne.mpr c20
                        have c20b1 : ((wrap64 ((l0.length : Int) / a2)) != 0) = true := bne_iff_ne.mpr c20
                        by_cases c30 : (wrap64 ((l0.length : Int) / a2)) > 0
                        · rw [if_pos c30] at H
                          have c30b0 : decide (0 < (wrap64 ((l0.length : Int) / a2))) = true := decide_eq_true c30
                          clear c30
                          obtain ⟨ji31, hji31⟩ : ∃ j_ : Int, (wrap64 ((l0.length : Int) - a2)) = j_ := ⟨_, rfl⟩
                          replace H : (if 0 ≤ (ji31) then (if (ji31) < (l0.length : Int) then ((spec_l30Match.f a1_0 ((rd_T24 l0 (ji31)).f2)).bind fun t467 => (some t467)) else (none)) else (none)) = some r := by first | (rw [hji31] at H; exact H) | (simp only [hji31] at H ⊢; exact H)
                          (try rw [hji31] at A18)
                          have hji31w : (IntKind.i64.wrap ((l0.length : Int) - a2)) = ji31 := (i64_w _).trans hji31
                          by_cases c32 : 0 ≤ (ji31)
                          · rw [if_pos c32] at H
                            have c32b0 : decide (0 ≤ (ji31)) = true := decide_eq_true c32
                            clear c32
                            by_cases c33 : (ji31) < (l0.length : Int)
                            · rw [if_pos c33] at H
                              have c33b0 : decide ((ji31) < (l0.length : Int)) = true := decide_eq_true c33
                              clear c33
                              replace H := Option.bind_eq_some_iff.mp H
                              obtain ⟨t467, A340, H⟩ := H
                              replace H : (some t467) = some r := H
                              have A34 := Aside0.mk A340
                              clear A340
                              obtain rfl := Option.some.inj H
                              have hcz35_0 : wc.cell? ⟨gb461, 0, none⟩ = some (.int .i64 a1_0) := (blk_cell BK461.out 0).trans rfl
                              have hcz35_1 : wc.cell? ⟨gb461, 1, none⟩ = some (.int .i64 a1_1) := (blk_cell BK461.out 1).trans rfl
                              have hcz35_2 : wc.cell? ⟨gb461, 2, none⟩ = some (.int .i64 a1_2) := (blk_cell BK461.out 2).trans rfl
                              have hcz35_3 : wc.cell? ⟨gb461, 3, none⟩ = some (.int .i64 a1_3) := (blk_cell BK461.out 3).trans rfl
                              have hfz35_0 := blk_frozen BK461.out 0
                              have hfz35_1 := blk_frozen BK461.out 1
                              have hfz35_2 := blk_frozen BK461.out 2
                              have hfz35_3 := blk_frozen BK461.out 3
                              have p462 : 0 ≤ ((ji15) : Int) := of_decide_eq_true (by first | (with_reducible assumption) | assumption)
                              have q462 : (ji15) < (l0.length : Int) := of_decide_eq_true (by first | (with_reducible assumption) | assumption)
                              obtain ⟨ad462, e462, hx462_0, hx462_1, hx462_2, hx462_3⟩ := at_T24 HR0.out (ji15) p462 q462
                              cases e462
                              replace hx462_0 := (HB.out.cell (World.block_lt_of_cell? w _ hx462_0)).trans hx462_0
                              replace hx462_1 := (HB.out.cell (World.block_lt_of_cell? w _ hx462_1)).trans hx462_1
                              replace hx462_2 := (HB.out.cell (World.block_lt_of_cell? w _ hx462_2)).trans hx462_2
                              replace hx462_3 := (HB.out.cell (World.block_lt_of_cell? w _ hx462_3)).trans hx462_3
                              replace p462 := eq_true p462
                              replace q462 := eq_true q462
                              go_wp2_with (first | (go_at_call 76; (with_reducible refine (spec_l30Match.calls a1_3 ((rd_T24 l0 (ji15)).f1) true _ A18.out).mono ?_); rintro e w' ⟨rfl, ⟨nd, rfl⟩⟩; (try first | exact ⟨rfl, _, World.drewN_drewN _ _ _⟩ | exact ⟨rfl, _, Eq.trans (World.drewN_drewN _ _ _) (congrArg (World.drewN _) (Nat.add_assoc _ _ _))⟩); have p466 : 0 ≤ ((ji31) : Int) := of_decide_eq_true (by first | (with_reducible assumption) | assumption); have q466 : (ji31) < (l0.length : Int) := of_decide_eq_true (by first | (with_reducible assumption) | assumption); obtain ⟨ad466, e466, hx466_0, hx466_1, hx466_2, hx466_3⟩ := at_T24 HR0.out (ji31) p466 q466; obtain rfl : ad462 = ad466 := (by injection e466); replace hx466_0 := (HB.out.cell (World.block_lt_of_cell? w _ hx466_0)).trans hx466_0; replace hx466_1 := (HB.out.cell (World.block_lt_of_cell? w _ hx466_1)).trans hx466_1; replace hx466_2 := (HB.out.cell (World.block_lt_of_cell? w _ hx466_2)).trans hx466_2; replace hx466_3 := (HB.out.cell (World.block_lt_of_cell? w _ hx466_3)).trans hx466_3; replace p466 := eq_true p466; replace q466 := eq_true q466) | (go_at_call 76; (with_reducible refine (spec_l30Match.calls a1_0 ((rd_T24 l0 (ji31)).f2) t467 _ A34.out).mono ?_); rintro e w' ⟨rfl, ⟨nd, rfl⟩⟩; (try first | exact ⟨rfl, _, World.drewN_drewN _ _ _⟩ | exact ⟨rfl, _, Eq.trans (World.drewN_drewN _ _ _) (congrArg (World.drewN _) (Nat.add_assoc _ _ _))⟩)))
                              repeat (go_quiet (first | (go_at_call 76; (with_reducible refine (spec_l30Match.calls a1_3 ((rd_T24 l0 (ji15)).f1) true _ A18.out).mono ?_); rintro e w' ⟨rfl, ⟨nd, rfl⟩⟩; (try first | exact ⟨rfl, _, World.drewN_drewN _ _ _⟩ | exact ⟨rfl, _, Eq.trans (World.drewN_drewN _ _ _) (congrArg (World.drewN _) (Nat.add_assoc _ _ _))⟩); have p466 : 0 ≤ ((ji31) : Int) := of_decide_eq_true (by first | (with_reducible assumption) | assumption); have q466 : (ji31) < (l0.length : Int) := of_decide_eq_true (by first | (with_reducible assumption) | assumption); obtain ⟨ad466, e466, hx466_0, hx466_1, hx466_2, hx466_3⟩ := at_T24 HR0.out (ji31) p466 q466; obtain rfl : ad462 = ad466 := (by injection e466); replace hx466_0 := (HB.out.cell (World.block_lt_of_cell? w _ hx466_0)).trans hx466_0; replace hx466_1 := (HB.out.cell (World.block_lt_of_cell? w _ hx466_1)).trans hx466_1; replace hx466_2 := (HB.out.cell (World.block_lt_of_cell? w _ hx466_2)).trans hx466_2; replace hx466_3 := (HB.out.cell (World.block_lt_of_cell? w _ hx466_3)).trans hx466_3; replace p466 := eq_true p466; replace q466 := eq_true q466) | (go_at_call 76; (with_reducible refine (spec_l30Match.calls a1_0 ((rd_T24 l0 (ji31)).f2) t467 _ A34.out).mono ?_); rintro e w' ⟨rfl, ⟨nd, rfl⟩⟩; (try first | exact ⟨rfl, _, World.drewN_drewN _ _ _⟩ | exact ⟨rfl, _, Eq.trans (World.drewN_drewN _ _ _) (congrArg (World.drewN _) (Nat.add_assoc _ _ _))⟩))); try go_wp2_with (first | (go_at_call 76; (with_reducible refine (spec_l30Match.calls a1_3 ((rd_T24 l0 (ji15)).f1) true _ A18.out).mono ?_); rintro e w' ⟨rfl, ⟨nd, rfl⟩⟩; (try first | exact ⟨rfl, _, World.drewN_drewN _ _ _⟩ | exact ⟨rfl, _, Eq.trans (World.drewN_drewN _ _ _) (congrArg (World.drewN _) (Nat.add_assoc _ _ _))⟩); have p466 : 0 ≤ ((ji31) : Int) := of_decide_eq_true (by first | (with_reducible assumption) | assumption); have q466 : (ji31) < (l0.length : Int) := of_decide_eq_true (by first | (with_reducible assumption) | assumption); obtain ⟨ad466, e466, hx466_0, hx466_1, hx466_2, hx466_3⟩ := at_T24 HR0.out (ji31) p466 q466; obtain rfl : ad462 = ad466 := (by injection e466); replace hx466_0 := (HB.out.cell (World.block_lt_of_cell? w _ hx466_0)).trans hx466_0; replace hx466_1 := (HB.out.cell (World.block_lt_of_cell? w _ hx466_1)).trans hx466_1; replace hx466_2 := (HB.out.cell (World.block_lt_of_cell? w _ hx466_2)).trans hx466_2; replace hx466_3 := (HB.out.cell (World.block_lt_of_cell? w _ hx466_3)).trans hx466_3; replace p466 := eq_true p466; replace q466 := eq_true q466) | (go_at_call 76; (with_reducible refine (spec_l30Match.calls a1_0 ((rd_T24 l0 (ji31)).f2) t467 _ A34.out).mono ?_); rintro e w' ⟨rfl, ⟨nd, rfl⟩⟩; (try first | exact ⟨rfl, _, World.drewN_drewN _ _ _⟩ | exact ⟨rfl, _, Eq.trans (World.drewN_drewN _ _ _) (congrArg (World.drewN _) (Nat.add_assoc _ _ _))⟩))))
                              go_ret
                              exact ⟨by first | rfl | (simp [errW_none, errW_some] <;> rfl) | (simp only [← hji15, ← hji31]; first | rfl | (simp [errW_none, errW_some] <;> rfl)) | (simp [*, errW_none, errW_some] <;> rfl), by repeat (first | (with_reducible first | exact HB.out | apply below_alloc | apply pw_below_drewN | apply below_drew1 | refine below_set ?_ GE461.out) | exact HB.out)⟩
                            · rw [if_neg c33] at H
                              exact absurd H (by simp)
                          · rw [if_neg c32] at H
                            exact absurd H (by simp)
                        · rw [if_neg c30] at H
                          have c30b0 : decide (0 < (wrap64 ((l0.length : Int) / a2))) = false := decide_eq_false c30
                          clear c30
                          obtain rfl := Option.some.inj H
                          have hcz36_0 : wc.cell? ⟨gb461, 0, none⟩ = some (.int .i64 a1_0) := (blk_cell BK461.out 0).trans rfl
                          have hcz36_1 : wc.cell? ⟨gb461, 1, none⟩ = some (.int .i64 a1_1) := (blk_cell BK461.out 1).trans rfl
                          have hcz36_2 : wc.cell? ⟨gb461, 2, none⟩ = some (.int .i64 a1_2) := (blk_cell BK461.out 2).trans rfl
                          have hcz36_3 : wc.cell? ⟨gb461, 3, none⟩ = some (.int .i64 a1_3) := (blk_cell BK461.out 3).trans rfl
                          have hfz36_0 := blk_frozen BK461.out 0
                          have hfz36_1 := blk_frozen BK461.out 1
                          have hfz36_2 := blk_frozen BK461.out 2
                          have hfz36_3 := blk_frozen BK461.out 3
                          have p462 : 0 ≤ ((ji15) : Int) := of_decide_eq_true (by first | (with_reducible assumption) | assumption)
                          have q462 : (ji15) < (l0.length : Int) := of_decide_eq_true (by first | (with_reducible assumption) | assumption)
                          obtain ⟨ad462, e462, hx462_0, hx462_1, hx462_2, hx462_3⟩ := at_T24 HR0.out (ji15) p462 q462
                          cases e462
                          replace hx462_0 := (HB.out.cell (World.block_lt_of_cell? w _ hx462_0)).trans hx462_0
                          replace hx462_1 := (HB.out.cell (World.block_lt_of_cell? w _ hx462_1)).trans hx462_1
                          replace hx462_2 := (HB.out.cell (World.block_lt_of_cell? w _ hx462_2)).trans hx462_2
                          replace hx462_3 := (HB.out.cell (World.block_lt_of_cell? w _ hx462_3)).trans hx462_3
                          replace p462 := eq_true p462
                          replace q462 := eq_true q462
                          go_wp2_with (first | (go_at_call 76; (with_reducible refine (spec_l30Match.calls a1_3 ((rd_T24 l0 (ji15)).f1) true _ A18.out).mono ?_); rintro e w' ⟨rfl, ⟨nd, rfl⟩⟩; (try first | exact ⟨rfl, _, World.drewN_drewN _ _ _⟩ | exact ⟨rfl, _, Eq.trans (World.drewN_drewN _ _ _) (congrArg (World.drewN _) (Nat.add_assoc _ _ _))⟩)))
                          repeat (go_quiet (first | (go_at_call 76; (with_reducible refine (spec_l30Match.calls a1_3 ((rd_T24 l0 (ji15)).f1) true _ A18.out).mono ?_); rintro e w' ⟨rfl, ⟨nd, rfl⟩⟩; (try first | exact ⟨rfl, _, World.drewN_drewN _ _ _⟩ | exact ⟨rfl, _, Eq.trans (World.drewN_drewN _ _ _) (congrArg (World.drewN _) (Nat.add_assoc _ _ _))⟩))); try go_wp2_with (first | (go_at_call 76; (with_reducible refine (spec_l30Match.calls a1_3 ((rd_T24 l0 (ji15)).f1) true _ A18.out).mono ?_); rintro e w' ⟨rfl, ⟨nd, rfl⟩⟩; (try first | exact ⟨rfl, _, World.drewN_drewN _ _ _⟩ | exact ⟨rfl, _, Eq.trans (World.drewN_drewN _ _ _) (congrArg (World.drewN _) (Nat.add_assoc _ _ _))⟩))))
                          go_ret
                          exact ⟨by first | rfl | (simp [errW_none, errW_some] <;> rfl) | (simp only [← hji15]; first | rfl | (simp [errW_none, errW_some] <;> rfl)) | (simp [*, errW_none, errW_some] <;> rfl), by repeat (first | (with_reducible first | exact HB.out | apply below_alloc | apply pw_below_drewN | apply below_drew1 | refine below_set ?_ GE461.out) | exact HB.out)⟩
                    · replace c19 := Bool.eq_false_iff.mpr c19
                      subst c19
                      have H1 : (some false) = some r := by rw [if_neg (show ¬ (false = true) by decide)] at H; exact H
                      clear H
                      have H := H1
                      clear H1
                      obtain rfl := Option.some.inj H
                      have hcz37_0 : wc.cell? ⟨gb461, 0, none⟩ = some (.int .i64 a1_0) := (blk_cell BK461.out 0).trans rfl
                      have hcz37_1 : wc.cell? ⟨gb461, 1, none⟩ = some (.int .i64 a1_1) := (blk_cell BK461.out 1).trans rfl
                      have hcz37_2 : wc.cell? ⟨gb461, 2, none⟩ = some (.int .i64 a1_2) := (blk_cell BK461.out 2).trans rfl
                      have hcz37_3 : wc.cell? ⟨gb461, 3, none⟩ = some (.int .i64 a1_3) := (blk_cell BK461.out 3).trans rfl
                      have hfz37_0 := blk_frozen BK461.out 0
                      have hfz37_1 := blk_frozen BK461.out 1
                      have hfz37_2 := blk_frozen BK461.out 2
                      have hfz37_3 := blk_frozen BK461.out 3
                      have p462 : 0 ≤ ((ji15) : Int) := of_decide_eq_true (by first | (with_reducible assumption) | assumption)
                      have q462 : (ji15) < (l0.length : Int) := of_decide_eq_true (by first | (with_reducible assumption) | assumption)
                      obtain ⟨ad462, e462, hx462_0, hx462_1, hx462_2, hx462_3⟩ := at_T24 HR0.out (ji15) p462 q462
                      cases e462
                      replace hx462_0 := (HB.out.cell (World.block_lt_of_cell? w _ hx462_0)).trans hx462_0
                      replace hx462_1 := (HB.out.cell (World.block_lt_of_cell? w _ hx462_1)).trans hx462_1
                      replace hx462_2 := (HB.out.cell (World.block_lt_of_cell? w _ hx462_2)).trans hx462_2
                      replace hx462_3 := (HB.out.cell (World.block_lt_of_cell? w _ hx462_3)).trans hx462_3
                      replace p462 := eq_true p462
                      replace q462 := eq_true q462
                      go_wp2_with (first | (go_at_call 76; (with_reducible refine (spec_l30Match.calls a1_3 ((rd_T24 l0 (ji15)).f1) false _ A18.out).mono ?_); rintro e w' ⟨rfl, ⟨nd, rfl⟩⟩; (try first | exact ⟨rfl, _, World.drewN_drewN _ _ _⟩ | exact ⟨rfl, _, Eq.trans (World.drewN_drewN _ _ _) (congrArg (World.drewN _) (Nat.add_assoc _ _ _))⟩)))
                      repeat (go_quiet (first | (go_at_call 76; (with_reducible refine (spec_l30Match.calls a1_3 ((rd_T24 l0 (ji15)).f1) false _ A18.out).mono ?_); rintro e w' ⟨rfl, ⟨nd, rfl⟩⟩; (try first | exact ⟨rfl, _, World.drewN_drewN _ _ _⟩ | exact ⟨rfl, _, Eq.trans (World.drewN_drewN _ _ _) (congrArg (World.drewN _) (Nat.add_assoc _ _ _))⟩))); try go_wp2_with (first | (go_at_call 76; (with_reducible refine (spec_l30Match.calls a1_3 ((rd_T24 l0 (ji15)).f1) false _ A18.out).mono ?_); rintro e w' ⟨rfl, ⟨nd, rfl⟩⟩; (try first | exact ⟨rfl, _, World.drewN_drewN _ _ _⟩ | exact ⟨rfl, _, Eq.trans (World.drewN_drewN _ _ _) (congrArg (World.drewN _) (Nat.add_assoc _ _ _))⟩))))
                      go_ret
                      exact ⟨by first | rfl | (simp [errW_none, errW_some] <;> rfl) | (simp only [← hji15]; first | rfl | (simp [errW_none, errW_some] <;> rfl)) | (simp [*, errW_none, errW_some] <;> rfl), by repeat (first | (with_reducible first | exact HB.out | apply below_alloc | apply pw_below_drewN | apply below_drew1 | refine below_set ?_ GE461.out) | exact HB.out)⟩
                  · rw [if_neg c17] at H
                    exact absurd H (by simp)
                · rw [if_neg c16] at H
                  exact absurd H (by simp)
              · rw [if_neg c14] at H
                have c14b0 : decide (0 < ((l0.length : Int) % a2)) = false := decide_eq_false c14
                clear c14
                by_cases c38 : (wrap64 ((l0.length : Int) / a2)) = 0
                · rw [if_pos c38] at H
                  have c38b0 : ((wrap64 ((l0.length : Int) / a2)) == 0) = true := beq_iff_eq.mpr c38
                  have c38b1 : ((wrap64 ((l0.length : Int) / a2)) != 0) = false := bne_eq_false_iff_eq.mpr c38
                  clear c38
                  by_cases c39 : a1_0 = 0
                  · rw [if_pos c39] at H
                    have c39b0 : (a1_0 == 0) = true := beq_iff_eq.mpr c39
                    have c39b1 : (a1_0 != 0) = false := bne_eq_false_iff_eq.mpr c39
                    clear c39
                    obtain rfl := Option.some.inj H
                    have hcz40_0 : wc.cell? ⟨gb461, 0, none⟩ = some (.int .i64 a1_0) := (blk_cell BK461.out 0).trans rfl
                    have hcz40_1 : wc.cell? ⟨gb461, 1, none⟩ = some (.int .i64 a1_1) := (blk_cell BK461.out 1).trans rfl
                    have hcz40_2 : wc.cell? ⟨gb461, 2, none⟩ = some (.int .i64 a1_2) := (blk_cell BK461.out 2).trans rfl
                    have hcz40_3 : wc.cell? ⟨gb461, 3, none⟩ = some (.int .i64 a1_3) := (blk_cell BK461.out 3).trans rfl
                    have hfz40_0 := blk_frozen BK461.out 0
                    have hfz40_1 := blk_frozen BK461.out 1
                    have hfz40_2 := blk_frozen BK461.out 2
                    have hfz40_3 := blk_frozen BK461.out 3
                    go_wp2
                    repeat (go_quiet (fail); try go_wp2)
                    go_ret
                    exact ⟨by first | rfl | (simp [errW_none, errW_some] <;> rfl) | (simp [*, errW_none, errW_some] <;> rfl), by repeat (first | (with_reducible first | exact HB.out | apply below_alloc | apply pw_below_drewN | apply below_drew1 | refine below_set ?_ GE461.out) | exact HB.out)⟩
                  · rw [if_neg c39] at H
                    have c39b0 : (a1_0 == 0) = false := beq_eq_false_iff_ne.mpr c39
                    have c39b1 : (a1_0 != 0) = true := bne_iff_ne.mpr c39
                    by_cases c41 : (wrap64 ((l0.length : Int) / a2)) > 0
                    · rw [if_pos c41] at H
                      have c41b0 : decide (0 < (wrap64 ((l0.length : Int) / a2))) = true := decide_eq_true c41
                      clear c41
                      obtain ⟨ji42, hji42⟩ : ∃ j_ : Int, (wrap64 ((l0.length : Int) - a2)) = j_ := ⟨_, rfl⟩
                      replace H : (if 0 ≤ (ji42) then (if (ji42) < (l0.length : Int) then ((spec_l30Match.f a1_0 ((rd_T24 l0 (ji42)).f2)).bind fun t469 => (some t469)) else (none)) else (none)) = some r := by first | (rw [hji42] at H; exact H) | (simp only [hji42] at H ⊢; exact H)
                      have hji42w : (IntKind.i64.wrap ((l0.length : Int) - a2)) = ji42 := (i64_w _).trans hji42
                      by_cases c43 : 0 ≤ (ji42)
                      · rw [if_pos c43] at H
                        have c43b0 : decide (0 ≤ (ji42)) = true := decide_eq_true c43
                        clear c43
                        by_cases c44 : (ji42) < (l0.length : Int)
                        · rw [if_pos c44] at H
                          have c44b0 : decide ((ji42) < (l0.length : Int)) = true := decide_eq_true c44
                          clear c44
                          replace H := Option.bind_eq_some_iff.mp H
                          obtain ⟨t469, A450, H⟩ := H
                          replace H : (some t469) = some r := H
                          have A45 := Aside0.mk A450
                          clear A450
                          obtain rfl := Option.some.inj H
                          have hcz46_0 : wc.cell? ⟨gb461, 0, none⟩ = some (.int .i64 a1_0) := (blk_cell BK461.out 0).trans rfl
                          have hcz46_1 : wc.cell? ⟨gb461, 1, none⟩ = some (.int .i64 a1_1) := (blk_cell BK461.out 1).trans rfl
                          have hcz46_2 : wc.cell? ⟨gb461, 2, none⟩ = some (.int .i64 a1_2) := (blk_cell BK461.out 2).trans rfl
                          have hcz46_3 : wc.cell? ⟨gb461, 3, none⟩ = some (.int .i64 a1_3) := (blk_cell BK461.out 3).trans rfl
                          have hfz46_0 := blk_frozen BK461.out 0
                          have hfz46_1 := blk_frozen BK461.out 1
                          have hfz46_2 := blk_frozen BK461.out 2
                          have hfz46_3 := blk_frozen BK461.out 3
                          have p468 : 0 ≤ ((ji42) : Int) := of_decide_eq_true (by first | (with_reducible assumption) | assumption)
                          have q468 : (ji42) < (l0.length : Int) := of_decide_eq_true (by first | (with_reducible assumption) | assumption)
                          obtain ⟨ad468, e468, hx468_0, hx468_1, hx468_2, hx468_3⟩ := at_T24 HR0.out (ji42) p468 q468
                          cases e468
                          replace hx468_0 := (HB.out.cell (World.block_lt_of_cell? w _ hx468_0)).trans hx468_0
                          replace hx468_1 := (HB.out.cell (World.block_lt_of_cell? w _ hx468_1)).trans hx468_1
                          replace hx468_2 := (HB.out.cell (World.block_lt_of_cell? w _ hx468_2)).trans hx468_2
                          replace hx468_3 := (HB.out.cell (World.block_lt_of_cell? w _ hx468_3)).trans hx468_3
                          replace p468 := eq_true p468
                          replace q468 := eq_true q468
                          go_wp2_with (first | (go_at_call 76; (with_reducible refine (spec_l30Match.calls a1_0 ((rd_T24 l0 (ji42)).f2) t469 _ A45.out).mono ?_); rintro e w' ⟨rfl, ⟨nd, rfl⟩⟩; (try first | exact ⟨rfl, _, World.drewN_drewN _ _ _⟩ | exact ⟨rfl, _, Eq.trans (World.drewN_drewN _ _ _) (congrArg (World.drewN _) (Nat.add_assoc _ _ _))⟩)))
                          repeat (go_quiet (first | (go_at_call 76; (with_reducible refine (spec_l30Match.calls a1_0 ((rd_T24 l0 (ji42)).f2) t469 _ A45.out).mono ?_); rintro e w' ⟨rfl, ⟨nd, rfl⟩⟩; (try first | exact ⟨rfl, _, World.drewN_drewN _ _ _⟩ | exact ⟨rfl, _, Eq.trans (World.drewN_drewN _ _ _) (congrArg (World.drewN _) (Nat.add_assoc _ _ _))⟩))); try go_wp2_with (first | (go_at_call 76; (with_reducible refine (spec_l30Match.calls a1_0 ((rd_T24 l0 (ji42)).f2) t469 _ A45.out).mono ?_); rintro e w' ⟨rfl, ⟨nd, rfl⟩⟩; (try first | exact ⟨rfl, _, World.drewN_drewN _ _ _⟩ | exact ⟨rfl, _, Eq.trans (World.drewN_drewN _ _ _) (congrArg (World.drewN _) (Nat.add_assoc _ _ _))⟩))))
                          go_ret
                          exact ⟨by first | rfl | (simp [errW_none, errW_some] <;> rfl) | (simp only [← hji42]; first | rfl | (simp [errW_none, errW_some] <;> rfl)) | (simp [*, errW_none, errW_some] <;> rfl), by repeat (first | (with_reducible first | exact HB.out | apply below_alloc | apply pw_below_drewN | apply below_drew1 | refine below_set ?_ GE461.out) | exact HB.out)⟩
                        · rw [if_neg c44] at H
                          exact absurd H (by simp)
                      · rw [if_neg c43] at H
                        exact absurd H (by simp)
                    · rw [if_neg c41] at H
                      have c41b0 : decide (0 < (wrap64 ((l0.length : Int) / a2))) = false := decide_eq_false c41
                      clear c41
                      obtain rfl := Option.some.inj H
                      have hcz47_0 : wc.cell? ⟨gb461, 0, none⟩ = some (.int .i64 a1_0) := (blk_cell BK461.out 0).trans rfl
                      have hcz47_1 : wc.cell? ⟨gb461, 1, none⟩ = some (.int .i64 a1_1) := (blk_cell BK461.out 1).trans rfl
                      have hcz47_2 : wc.cell? ⟨gb461, 2, none⟩ = some (.int .i64 a1_2) := (blk_cell BK461.out 2).trans rfl
                      have hcz47_3 : wc.cell? ⟨gb461, 3, none⟩ = some (.int .i64 a1_3) := (blk_cell BK461.out 3).trans rfl
                      have hfz47_0 := blk_frozen BK461.out 0
                      have hfz47_1 := blk_frozen BK461.out 1
                      have hfz47_2 := blk_frozen BK461.out 2
                      have hfz47_3 := blk_frozen BK461.out 3
                      go_wp2
                      repeat (go_quiet (fail); try go_wp2)
                      go_ret
                      exact ⟨by first | rfl | (simp [errW_none, errW_some] <;> rfl) | (simp [*, errW_none, errW_some] <;> rfl), by repeat (first | (with_reducible first | exact HB.out | apply below_alloc | apply pw_below_drewN | apply below_drew1 | refine below_set ?_ GE461.out) | exact HB.out)⟩
                · rw [if_neg c38] at H
                  have c38b0 : ((wrap64 ((l0.length : Int) / a2)) == 0) = false := beq_eq_false_iff_ne.mpr c38
                  have c38b1 : ((wrap64 ((l0.length : Int) / a2)) != 0) = true := bne_iff_ne.mpr c38
                  by_cases c48 : (wrap64 ((l0.length : Int) / a2)) > 0
                  · rw [if_pos c48] at H
                    have c48b0 : decide (0 < (wrap64 ((l0.length : Int) / a2))) = true := decide_eq_true c48
                    clear c48
                    obtain ⟨ji49, hji49⟩ : ∃ j_ : Int, (wrap64 ((l0.length : Int) - a2)) = j_ := ⟨_, rfl⟩
                    replace H : (if 0 ≤ (ji49) then (if (ji49) < (l0.length : Int) then ((spec_l30Match.f a1_0 ((rd_T24 l0 (ji49)).f2)).bind fun t471 => (some t471)) else (none)) else (none)) = some r := by first | (rw [hji49] at H; exact H) | (simp only [hji49] at H ⊢; exact H)
                    have hji49w : (IntKind.i64.wrap ((l0.length : Int) - a2)) = ji49 := (i64_w _).trans hji49
                    by_cases c50 : 0 ≤ (ji49)
                    · rw [if_pos c50] at H
                      have c50b0 : decide (0 ≤ (ji49)) = true := decide_eq_true c50
                      clear c50
                      by_cases c51 : (ji49) < (l0.length : Int)
                      · rw [if_pos c51] at H
                        have c51b0 : decide ((ji49) < (l0.length : Int)) = true := decide_eq_true c51
                        clear c51
                        replace H := Option.bind_eq_some_iff.mp H
                        obtain ⟨t471, A520, H⟩ := H
                        replace H : (some t471) = some r := H
                        have A52 := Aside0.mk A520
                        clear A520
                        obtain rfl := Option.some.inj H
                        have hcz53_0 : wc.cell? ⟨gb461, 0, none⟩ = some (.int .i64 a1_0) := (blk_cell BK461.out 0).trans rfl
                        have hcz53_1 : wc.cell? ⟨gb461, 1, none⟩ = some (.int .i64 a1_1) := (blk_cell BK461.out 1).trans rfl
                        have hcz53_2 : wc.cell? ⟨gb461, 2, none⟩ = some (.int .i64 a1_2) := (blk_cell BK461.out 2).trans rfl
                        have hcz53_3 : wc.cell? ⟨gb461, 3, none⟩ = some (.int .i64 a1_3) := (blk_cell BK461.out 3).trans rfl
                        have hfz53_0 := blk_frozen BK461.out 0
                        have hfz53_1 := blk_frozen BK461.out 1
                        have hfz53_2 := blk_frozen BK461.out 2
                        have hfz53_3 := blk_frozen BK461.out 3
                        have p470 : 0 ≤ ((ji49) : Int) := of_decide_eq_true (by first | (with_reducible assumption) | assumption)
                        have q470 : (ji49) < (l0.length : Int) := of_decide_eq_true (by first | (with_reducible assumption) | assumption)
                        obtain ⟨ad470, e470, hx470_0, hx470_1, hx470_2, hx470_3⟩ := at_T24 HR0.out (ji49) p470 q470
                        cases e470
                        replace hx470_0 := (HB.out.cell (World.block_lt_of_cell? w _ hx470_0)).trans hx470_0
                        replace hx470_1 := (HB.out.cell (World.block_lt_of_cell? w _ hx470_1)).trans hx470_1
                        replace hx470_2 := (HB.out.cell (World.block_lt_of_cell? w _ hx470_2)).trans hx470_2
                        replace hx470_3 := (HB.out.cell (World.block_lt_of_cell? w _ hx470_3)).trans hx470_3
                        replace p470 := eq_true p470
                        replace q470 := eq_true q470
                        go_wp2_with (first | (go_at_call 76; (with_reducible refine (spec_l30Match.calls a1_0 ((rd_T24 l0 (ji49)).f2) t471 _ A52.out).mono ?_); rintro e w' ⟨rfl, ⟨nd, rfl⟩⟩; (try first | exact ⟨rfl, _, World.drewN_drewN _ _ _⟩ | exact ⟨rfl, _, Eq.trans (World.drewN_drewN _ _ _) (congrArg (World.drewN _) (Nat.add_assoc _ _ _))⟩)))
                        repeat (go_quiet (first | (go_at_call 76; (with_reducible refine (spec_l30Match.calls a1_0 ((rd_T24 l0 (ji49)).f2) t471 _ A52.out).mono ?_); rintro e w' ⟨rfl, ⟨nd, rfl⟩⟩; (try first | exact ⟨rfl, _, World.drewN_drewN _ _ _⟩ | exact ⟨rfl, _, Eq.trans (World.drewN_drewN _ _ _) (congrArg (World.drewN _) (Nat.add_assoc _ _ _))⟩))); try go_wp2_with (first | (go_at_call 76; (with_reducible refine (spec_l30Match.calls a1_0 ((rd_T24 l0 (ji49)).f2) t471 _ A52.out).mono ?_); rintro e w' ⟨rfl, ⟨nd, rfl⟩⟩; (try first | exact ⟨rfl, _, World.drewN_drewN _ _ _⟩ | exact ⟨rfl, _, Eq.trans (World.drewN_drewN _ _ _) (congrArg (World.drewN _) (Nat.add_assoc _ _ _))⟩))))
                        go_ret
                        exact ⟨by first | rfl | (simp [errW_none, errW_some] <;> rfl) | (simp only [← hji49]; first | rfl | (simp [errW_none, errW_some] <;> rfl)) | (simp [*, errW_none, errW_some] <;> rfl), by repeat (first | (with_reducible first | exact HB.out | apply below_alloc | apply pw_below_drewN | apply below_drew1 | refine below_set ?_ GE461.out) | exact HB.out)⟩
                      · rw [if_neg c51] at H
                        exact absurd H (by simp)
                    · rw [if_neg c50] at H
                      exact absurd H (by simp)
                  · rw [if_neg c48] at H
                    have c48b0 : decide (0 < (wrap64 ((l0.length : Int) / a2))) = false := decide_eq_false c48
                    clear c48
                    obtain rfl := Option.some.inj H
                    have hcz54_0 : wc.cell? ⟨gb461, 0, none⟩ = some (.int .i64 a1_0) := (blk_cell BK461.out 0).trans rfl
                    have hcz54_1 : wc.cell? ⟨gb461, 1, none⟩ = some (.int .i64 a1_1) := (blk_cell BK461.out 1).trans rfl
                    have hcz54_2 : wc.cell? ⟨gb461, 2, none⟩ = some (.int .i64 a1_2) := (blk_cell BK461.out 2).trans rfl
                    have hcz54_3 : wc.cell? ⟨gb461, 3, none⟩ = some (.int .i64 a1_3) := (blk_cell BK461.out 3).trans rfl
                    have hfz54_0 := blk_frozen BK461.out 0
                    have hfz54_1 := blk_frozen BK461.out 1
                    have hfz54_2 := blk_frozen BK461.out 2
                    have hfz54_3 := blk_frozen BK461.out 3
                    go_wp2
                    repeat (go_quiet (fail); try go_wp2)
                    go_ret
                    exact ⟨by first | rfl | (simp [errW_none, errW_some] <;> rfl) | (simp [*, errW_none, errW_some] <;> rfl), by repeat (first | (with_reducible first | exact HB.out | apply below_alloc | apply pw_below_drewN | apply below_drew1 | refine below_set ?_ GE461.out) | exact HB.out)⟩
            · rw [if_neg c13] at H
              have c13b0 : (a1_3 == 0) = false := beq_eq_false_iff_ne.mpr c13
              have c13b1 : (a1_3 != 0) = true := bne_iff_ne.mpr c13
              obtain rfl := Option.some.inj H
              have hcz55_0 : wc.cell? ⟨gb461, 0, none⟩ = some (.int .i64 a1_0) := (blk_cell BK461.out 0).trans rfl
              have hcz55_1 : wc.cell? ⟨gb461, 1, none⟩ = some (.int .i64 a1_1) := (blk_cell BK461.out 1).trans rfl
              have hcz55_2 : wc.cell? ⟨gb461, 2, none⟩ = some (.int .i64 a1_2) := (blk_cell BK461.out 2).trans rfl
              have hcz55_3 : wc.cell? ⟨gb461, 3, none⟩ = some (.int .i64 a1_3) := (blk_cell BK461.out 3).trans rfl
              have hfz55_0 := blk_frozen BK461.out 0
              have hfz55_1 := blk_frozen BK461.out 1
              have hfz55_2 := blk_frozen BK461.out 2
              have hfz55_3 := blk_frozen BK461.out 3
              go_wp2
              repeat (go_quiet (fail); try go_wp2)
              go_ret
              exact ⟨by first | rfl | (simp [errW_none, errW_some] <;> rfl) | (simp [*, errW_none, errW_some] <;> rfl), by repeat (first | (with_reducible first | exact HB.out | apply below_alloc | apply pw_below_drewN | apply below_drew1 | refine below_set ?_ GE461.out) | exact HB.out)⟩
          · rw [if_neg c12] at H
            have c12b0 : (((l0.length : Int) % a2) == 0) = false := beq_eq_false_iff_ne.mpr c12
            have c12b1 : (((l0.length : Int) % a2) != 0) = true := bne_iff_ne.mpr c12
            by_cases c56 : ((l0.length : Int) % a2) > 0
            · rw [if_pos c56] at H
              have c56b0 : decide (0 < ((l0.length : Int) % a2)) = true := decide_eq_true c56
              clear c56
              obtain ⟨ji57, hji57⟩ : ∃ j_ : Int, (wrap64 ((l0.length : Int) - 1)) = j_ := ⟨_, rfl⟩
              replace H : (if 0 ≤ (ji57) then (if (ji57) < (l0.length : Int) then ((spec_l30Match.f a1_3 ((rd_T24 l0 (ji57)).f1)).bind fun t473 => (if t473 = true then (if (wrap64 ((l0.length : Int) / a2)) = 0 then (if a1_0 = 0 then (some true) else (if (wrap64 ((l0.length : Int) / a2)) > 0 then (if 0 ≤ (wrap64 ((l0.length : Int) - a2)) then (if (wrap64 ((l0.length : Int) - a2)) < (l0.length : Int) then ((spec_l30Match.f a1_0 ((rd_T24 l0 (wrap64 ((l0.length : Int) - a2))).f2)).bind fun t475 => (some t475)) else (none)) else (none)) else (some false))) else (if (wrap64 ((l0.length : Int) / a2)) > 0 then (if 0 ≤ (wrap64 ((l0.length : Int) - a2)) then (if (wrap64 ((l0.length : Int) - a2)) < (l0.length : Int) then ((spec_l30Match.f a1_0 ((rd_T24 l0 (wrap64 ((l0.length : Int) - a2))).f2)).bind fun t477 => (some t477)) else (none)) else (none)) else (some false))) else (some false))) else (none)) else (none)) = some r := by first | (rw [hji57] at H; exact H) | (simp only [hji57] at H ⊢; exact H)
              have hji57w : (IntKind.i64.wrap ((l0.length : Int) - 1)) = ji57 := (i64_w _).trans hji57
              by_cases c58 : 0 ≤ (ji57)
              · rw [if_pos c58] at H
                have c58b0 : decide (0 ≤ (ji57)) = true := decide_eq_true c58
                clear c58
                by_cases c59 : (ji57) < (l0.length : Int)
                · rw [if_pos c59] at H
                  have c59b0 : decide ((ji57) < (l0.length : Int)) = true := decide_eq_true c59
                  clear c59
                  replace H := Option.bind_eq_some_iff.mp H
                  obtain ⟨t473, A600, H⟩ := H
                  replace H : (if t473 = true then (if (wrap64 ((l0.length : Int) / a2)) = 0 then (if a1_0 = 0 then (some true) else (if (wrap64 ((l0.length : Int) / a2)) > 0 then (if 0 ≤ (wrap64 ((l0.length : Int) - a2)) then (if (wrap64 ((l0.length : Int) - a2)) < (l0.length : Int) then ((spec_l30Match.f a1_0 ((rd_T24 l0 (wrap64 ((l0.length : Int) - a2))).f2)).bind fun t475 => (some t475)) else (none)) else (none)) else (some false))) else (if (wrap64 ((l0.length : Int) / a2)) > 0 then (if 0 ≤ (wrap64 ((l0.length : Int) - a2)) then (if (wrap64 ((l0.length : Int) - a2)) < (l0.length : Int) then ((spec_l30Match.f a1_0 ((rd_T24 l0 (wrap64 ((l0.length : Int) - a2))).f2)).bind fun t477 => (some t477)) else (none)) else (none)) else (some false))) else (some false)) = some r := H
                  have A60 := Aside0.mk A600
                  clear A600
                  by_cases c61 : t473 = true
                  · subst c61
                    have H1 : (if (wrap64 ((l0.length : Int) / a2)) = 0 then (if a1_0 = 0 then (some true) else (if (wrap64 ((l0.length : Int) / a2)) > 0 then (if 0 ≤ (wrap64 ((l0.length : Int) - a2)) then (if (wrap64 ((l0.length : Int) - a2)) < (l0.length : Int) then ((spec_l30Match.f a1_0 ((rd_T24 l0 (wrap64 ((l0.length : Int) - a2))).f2)).bind fun t475 => (some t475)) else (none)) else (none)) else (some false))) else (if (wrap64 ((l0.length : Int) / a2)) > 0 then (if 0 ≤ (wrap64 ((l0.length : Int) - a2)) then (if (wrap64 ((l0.length : Int) - a2)) < (l0.length : Int) then ((spec_l30Match.f a1_0 ((rd_T24 l0 (wrap64 ((l0.length : Int) - a2))).f2)).bind fun t477 => (some t477)) else (none)) else (none)) else (some false))) = some r := by rw [if_pos rfl] at H; exact H
                    clear H
                    have H := H1
                    clear H1
                    by_cases c62 : (wrap64 ((l0.length : Int) / a2)) = 0
                    · rw [if_pos c62] at H
                      have c62b0 : ((wrap64 ((l0.length : Int) / a2)) == 0) = true := beq_iff_eq.mpr c62
                      have c62b1 : ((wrap64 ((l0.length : Int) / a2)) != 0) = false := bne_eq_false_iff_eq.mpr c62
                      clear c62
                      by_cases c63 : a1_0 = 0
                      · rw [if_pos c63] at H
                        have c63b0 : (a1_0 == 0) = true := beq_iff_eq.mpr c63
                        have c63b1 : (a1_0 != 0) = false := bne_eq_false_iff_eq.mpr c63
                        clear c63
                        obtain rfl := Option.some.inj H
                        have hcz64_0 : wc.cell? ⟨gb461, 0, none⟩ = some (.int .i64 a1_0) := (blk_cell BK461.out 0).trans rfl
                        have hcz64_1 : wc.cell? ⟨gb461, 1, none⟩ = some (.int .i64 a1_1) := (blk_cell BK461.out 1).trans rfl
                        have hcz64_2 : wc.cell? ⟨gb461, 2, none⟩ = some (.int .i64 a1_2) := (blk_cell BK461.out 2).trans rfl
                        have hcz64_3 : wc.cell? ⟨gb461, 3, none⟩ = some (.int .i64 a1_3) := (blk_cell BK461.out 3).trans rfl
                        have hfz64_0 := blk_frozen BK461.out 0
                        have hfz64_1 := blk_frozen BK461.out 1
                        have hfz64_2 := blk_frozen BK461.out 2
                        have hfz64_3 := blk_frozen BK461.out 3
                        have p472 : 0 ≤ ((ji57) : Int) := of_decide_eq_true (by first | (with_reducible assumption) | assumption)
                        have q472 : (ji57) < (l0.length : Int) := of_decide_eq_true (by first | (with_reducible assumption) | assumption)
                        obtain ⟨ad472, e472, hx472_0, hx472_1, hx472_2, hx472_3⟩ := at_T24 HR0.out (ji57) p472 q472
                        cases e472
                        replace hx472_0 := (HB.out.cell (World.block_lt_of_cell? w _ hx472_0)).trans hx472_0
                        replace hx472_1 := (HB.out.cell (World.block_lt_of_cell? w _ hx472_1)).trans hx472_1
                        replace hx472_2 := (HB.out.cell (World.block_lt_of_cell? w _ hx472_2)).trans hx472_2
                        replace hx472_3 := (HB.out.cell (World.block_lt_of_cell? w _ hx472_3)).trans hx472_3
                        replace p472 := eq_true p472
                        replace q472 := eq_true q472
                        go_wp2_with (first | (go_at_call 76; (with_reducible refine (spec_l30Match.calls a1_3 ((rd_T24 l0 (ji57)).f1) true _ A60.out).mono ?_); rintro e w' ⟨rfl, ⟨nd, rfl⟩⟩; (try first | exact ⟨rfl, _, World.drewN_drewN _ _ _⟩ | exact ⟨rfl, _, Eq.trans (World.drewN_drewN _ _ _) (congrArg (World.drewN _) (Nat.add_assoc _ _ _))⟩)))
                        repeat (go_quiet (first | (go_at_call 76; (with_reducible refine (spec_l30Match.calls a1_3 ((rd_T24 l0 (ji57)).f1) true _ A60.out).mono ?_); rintro e w' ⟨rfl, ⟨nd, rfl⟩⟩; (try first | exact ⟨rfl, _, World.drewN_drewN _ _ _⟩ | exact ⟨rfl, _, Eq.trans (World.drewN_drewN _ _ _) (congrArg (World.drewN _) (Nat.add_assoc _ _ _))⟩))); try go_wp2_with (first | (go_at_call 76; (with_reducible refine (spec_l30Match.calls a1_3 ((rd_T24 l0 (ji57)).f1) true _ A60.out).mono ?_); rintro e w' ⟨rfl, ⟨nd, rfl⟩⟩; (try first | exact ⟨rfl, _, World.drewN_drewN _ _ _⟩ | exact ⟨rfl, _, Eq.trans (World.drewN_drewN _ _ _) (congrArg (World.drewN _) (Nat.add_assoc _ _ _))⟩))))
                        go_ret
                        exact ⟨by first | rfl | (simp [errW_none, errW_some] <;> rfl) | (simp only [← hji57]; first | rfl | (simp [errW_none, errW_some] <;> rfl)) | (simp [*, errW_none, errW_some] <;> rfl), by repeat (first | (with_reducible first | exact HB.out | apply below_alloc | apply pw_below_drewN | apply below_drew1 | refine below_set ?_ GE461.out) | exact HB.out)⟩
                      · rw [if_neg c63] at H
                        have c63b0 : (a1_0 == 0) = false := beq_eq_false_iff_ne.mpr c63
                        have c63b1 : (a1_0 != 0) = true := bne_iff_ne.mpr c63
                        by_cases c65 : (wrap64 ((l0.length : Int) / a2)) > 0
                        · rw [if_pos c65] at H
                          have c65b0 : decide (0 < (wrap64 ((l0.length : Int) / a2))) = true := decide_eq_true c65
                          clear c65
                          obtain ⟨ji66, hji66⟩ : ∃ j_ : Int, (wrap64 ((l0.length : Int) - a2)) = j_ := ⟨_, rfl⟩
                          replace H : (if 0 ≤ (ji66) then (if (ji66) < (l0.length : Int) then ((spec_l30Match.f a1_0 ((rd_T24 l0 (ji66)).f2)).bind fun t475 => (some t475)) else (none)) else (none)) = some r := by first | (rw [hji66] at H; exact H) | (simp only [hji66] at H ⊢; exact H)
                          (try rw [hji66] at A60)
                          have hji66w : (IntKind.i64.wrap ((l0.length : Int) - a2)) = ji66 := (i64_w _).trans hji66
                          by_cases c67 : 0 ≤ (ji66)
                          · rw [if_pos c67] at H
                            have c67b0 : decide (0 ≤ (ji66)) = true := decide_eq_true c67
                            clear c67
                            by_cases c68 : (ji66) < (l0.length : Int)
                            · rw [if_pos c68] at H
                              have c68b0 : decide ((ji66) < (l0.length : Int)) = true := decide_eq_true c68
                              clear c68
                              replace H := Option.bind_eq_some_iff.mp H
                              obtain ⟨t475, A690, H⟩ := H
                              replace H : (some t475) = some r := H
                              have A69 := Aside0.mk A690
                              clear A690
                              obtain rfl := Option.some.inj H
                              have hcz70_0 : wc.cell? ⟨gb461, 0, none⟩ = some (.int .i64 a1_0) := (blk_cell BK461.out 0).trans rfl
                              have hcz70_1 : wc.cell? ⟨gb461, 1, none⟩ = some (.int .i64 a1_1) := (blk_cell BK461.out 1).trans rfl
                              have hcz70_2 : wc.cell? ⟨gb461, 2, none⟩ = some (.int .i64 a1_2) := (blk_cell BK461.out 2).trans rfl
                              have hcz70_3 : wc.cell? ⟨gb461, 3, none⟩ = some (.int .i64 a1_3) := (blk_cell BK461.out 3).trans rfl
                              have hfz70_0 := blk_frozen BK461.out 0
                              have hfz70_1 := blk_frozen BK461.out 1
                              have hfz70_2 := blk_frozen BK461.out 2
                              have hfz70_3 := blk_frozen BK461.out 3
                              have p472 : 0 ≤ ((ji57) : Int) := of_decide_eq_true (by first | (with_reducible assumption) | assumption)
                              have q472 : (ji57) < (l0.length : Int) := of_decide_eq_true (by first | (with_reducible assumption) | assumption)
                              obtain ⟨ad472, e472, hx472_0, hx472_1, hx472_2, hx472_3⟩ := at_T24 HR0.out (ji57) p472 q472
                              cases e472
                              replace hx472_0 := (HB.out.cell (World.block_lt_of_cell? w _ hx472_0)).trans hx472_0
                              replace hx472_1 := (HB.out.cell (World.block_lt_of_cell? w _ hx472_1)).trans hx472_1
                              replace hx472_2 := (HB.out.cell (World.block_lt_of_cell? w _ hx472_2)).trans hx472_2
                              replace hx472_3 := (HB.out.cell (World.block_lt_of_cell? w _ hx472_3)).trans hx472_3
                              replace p472 := eq_true p472
                              replace q472 := eq_true q472
                              go_wp2_with (first | (go_at_call 76; (with_reducible refine (spec_l30Match.calls a1_3 ((rd_T24 l0 (ji57)).f1) true _ A60.out).mono ?_); rintro e w' ⟨rfl, ⟨nd, rfl⟩⟩; (try first | exact ⟨rfl, _, World.drewN_drewN _ _ _⟩ | exact ⟨rfl, _, Eq.trans (World.drewN_drewN _ _ _) (congrArg (World.drewN _) (Nat.add_assoc _ _ _))⟩); have p474 : 0 ≤ ((ji66) : Int) := of_decide_eq_true (by first | (with_reducible assumption) | assumption); have q474 : (ji66) < (l0.length : Int) := of_decide_eq_true (by first | (with_reducible assumption) | assumption); obtain ⟨ad474, e474, hx474_0, hx474_1, hx474_2, hx474_3⟩ := at_T24 HR0.out (ji66) p474 q474; obtain rfl : ad472 = ad474 := (by injection e474); replace hx474_0 := (HB.out.cell (World.block_lt_of_cell? w _ hx474_0)).trans hx474_0; replace hx474_1 := (HB.out.cell (World.block_lt_of_cell? w _ hx474_1)).trans hx474_1; replace hx474_2 := (HB.out.cell (World.block_lt_of_cell? w _ hx474_2)).trans hx474_2; replace hx474_3 := (HB.out.cell (World.block_lt_of_cell? w _ hx474_3)).trans hx474_3; replace p474 := eq_true p474; replace q474 := eq_true q474) | (go_at_call 76; (with_reducible refine (spec_l30Match.calls a1_0 ((rd_T24 l0 (ji66)).f2) t475 _ A69.out).mono ?_); rintro e w' ⟨rfl, ⟨nd, rfl⟩⟩; (try first | exact ⟨rfl, _, World.drewN_drewN _ _ _⟩ | exact ⟨rfl, _, Eq.trans (World.drewN_drewN _ _ _) (congrArg (World.drewN _) (Nat.add_assoc _ _ _))⟩)))
                              repeat (go_quiet (first | (go_at_call 76; (with_reducible refine (spec_l30Match.calls a1_3 ((rd_T24 l0 (ji57)).f1) true _ A60.out).mono ?_); rintro e w' ⟨rfl, ⟨nd, rfl⟩⟩; (try first | exact ⟨rfl, _, World.drewN_drewN _ _ _⟩ | exact ⟨rfl, _, Eq.trans (World.drewN_drewN _ _ _) (congrArg (World.drewN _) (Nat.add_assoc _ _ _))⟩); have p474 : 0 ≤ ((ji66) : Int) := of_decide_eq_true (by first | (with_reducible assumption) | assumption); have q474 : (ji66) < (l0.length : Int) := of_decide_eq_true (by first | (with_reducible assumption) | assumption); obtain ⟨ad474, e474, hx474_0, hx474_1, hx474_2, hx474_3⟩ := at_T24 HR0.out (ji66) p474 q474; obtain rfl : ad472 = ad474 := (by injection e474); replace hx474_0 := (HB.out.cell (World.block_lt_of_cell? w _ hx474_0)).trans hx474_0; replace hx474_1 := (HB.out.cell (World.block_lt_of_cell? w _ hx474_1)).trans hx474_1; replace hx474_2 := (HB.out.cell (World.block_lt_of_cell? w _ hx474_2)).trans hx474_2; replace hx474_3 := (HB.out.cell (World.block_lt_of_cell? w _ hx474_3)).trans hx474_3; replace p474 := eq_true p474; replace q474 := eq_true q474) | (go_at_call 76; (with_reducible refine (spec_l30Match.calls a1_0 ((rd_T24 l0 (ji66)).f2) t475 _ A69.out).mono ?_); rintro e w' ⟨rfl, ⟨nd, rfl⟩⟩; (try first | exact ⟨rfl, _, World.drewN_drewN _ _ _⟩ | exact ⟨rfl, _, Eq.trans (World.drewN_drewN _ _ _) (congrArg (World.drewN _) (Nat.add_assoc _ _ _))⟩))); try go_wp2_with (first | (go_at_call 76; (with_reducible refine (spec_l30Match.calls a1_3 ((rd_T24 l0 (ji57)).f1) true _ A60.out).mono ?_); rintro e w' ⟨rfl, ⟨nd, rfl⟩⟩; (try first | exact ⟨rfl, _, World.drewN_drewN _ _ _⟩ | exact ⟨rfl, _, Eq.trans (World.drewN_drewN _ _ _) (congrArg (World.drewN _) (Nat.add_assoc _ _ _))⟩); have p474 : 0 ≤ ((ji66) : Int) := of_decide_eq_true (by first | (with_reducible assumption) | assumption); have q474 : (ji66) < (l0.length : Int) := of_decide_eq_true (by first | (with_reducible assumption) | assumption); obtain ⟨ad474, e474, hx474_0, hx474_1, hx474_2, hx474_3⟩ := at_T24 HR0.out (ji66) p474 q474; obtain rfl : ad472 = ad474 := (by injection e474); replace hx474_0 := (HB.out.cell (World.block_lt_of_cell? w _ hx474_0)).trans hx474_0; replace hx474_1 := (HB.out.cell (World.block_lt_of_cell? w _ hx474_1)).trans hx474_1; replace hx474_2 := (HB.out.cell (World.block_lt_of_cell? w _ hx474_2)).trans hx474_2; replace hx474_3 := (HB.out.cell (World.block_lt_of_cell? w _ hx474_3)).trans hx474_3; replace p474 := eq_true p474; replace q474 := eq_true q474) | (go_at_call 76; (with_reducible refine (spec_l30Match.calls a1_0 ((rd_T24 l0 (ji66)).f2) t475 _ A69.out).mono ?_); rintro e w' ⟨rfl, ⟨nd, rfl⟩⟩; (try first | exact ⟨rfl, _, World.drewN_drewN _ _ _⟩ | exact ⟨rfl, _, Eq.trans (World.drewN_drewN _ _ _) (congrArg (World.drewN _) (Nat.add_assoc _ _ _))⟩))))
                              go_ret
                              exact ⟨by first | rfl | (simp [errW_none, errW_some] <;> rfl) | (simp only [← hji57, ← hji66]; first | rfl | (simp [errW_none, errW_some] <;> rfl)) | (simp [*, errW_none, errW_some] <;> rfl), by repeat (first | (with_reducible first | exact HB.out | apply below_alloc | apply pw_below_drewN | apply below_drew1 | refine below_set ?_ GE461.out) | exact HB.out)⟩
                            · rw [if_neg c68] at H
                              exact absurd H (by simp)
                          · rw [if_neg c67] at H
                            exact absurd H (by simp)
                        · rw [if_neg c65] at H
                          have c65b0 : decide (0 < (wrap64 ((l0.length : Int) / a2))) = false := decide_eq_false c65
                          clear c65
                          obtain rfl := Option.some.inj H
                          have hcz71_0 : wc.cell? ⟨gb461, 0, none⟩ = some (.int .i64 a1_0) := (blk_cell BK461.out 0).trans rfl
                          have hcz71_1 : wc.cell? ⟨gb461, 1, none⟩ = some (.int .i64 a1_1) := (blk_cell BK461.out 1).trans rfl
                          have hcz71_2 : wc.cell? ⟨gb461, 2, none⟩ = some (.int .i64 a1_2) := (blk_cell BK461.out 2).trans rfl
                          have hcz71_3 : wc.cell? ⟨gb461, 3, none⟩ = some (.int .i64 a1_3) := (blk_cell BK461.out 3).trans rfl
                          have hfz71_0 := blk_frozen BK461.out 0
                          have hfz71_1 := blk_frozen BK461.out 1
                          have hfz71_2 := blk_frozen BK461.out 2
                          have hfz71_3 := blk_frozen BK461.out 3
                          have p472 : 0 ≤ ((ji57) : Int) := of_decide_eq_true (by first | (with_reducible assumption) | assumption)
                          have q472 : (ji57) < (l0.length : Int) := of_decide_eq_true (by first | (with_reducible assumption) | assumption)
                          obtain ⟨ad472, e472, hx472_0, hx472_1, hx472_2, hx472_3⟩ := at_T24 HR0.out (ji57) p472 q472
                          cases e472
                          replace hx472_0 := (HB.out.cell (World.block_lt_of_cell? w _ hx472_0)).trans hx472_0
                          replace hx472_1 := (HB.out.cell (World.block_lt_of_cell? w _ hx472_1)).trans hx472_1
                          replace hx472_2 := (HB.out.cell (World.block_lt_of_cell? w _ hx472_2)).trans hx472_2
                          replace hx472_3 := (HB.out.cell (World.block_lt_of_cell? w _ hx472_3)).trans hx472_3
                          replace p472 := eq_true p472
                          replace q472 := eq_true q472
                          go_wp2_with (first | (go_at_call 76; (with_reducible refine (spec_l30Match.calls a1_3 ((rd_T24 l0 (ji57)).f1) true _ A60.out).mono ?_); rintro e w' ⟨rfl, ⟨nd, rfl⟩⟩; (try first | exact ⟨rfl, _, World.drewN_drewN _ _ _⟩ | exact ⟨rfl, _, Eq.trans (World.drewN_drewN _ _ _) (congrArg (World.drewN _) (Nat.add_assoc _ _ _))⟩)))
                          repeat (go_quiet (first | (go_at_call 76; (with_reducible refine (spec_l30Match.calls a1_3 ((rd_T24 l0 (ji57)).f1) true _ A60.out).mono ?_); rintro e w' ⟨rfl, ⟨nd, rfl⟩⟩; (try first | exact ⟨rfl, _, World.drewN_drewN _ _ _⟩ | exact ⟨rfl, _, Eq.trans (World.drewN_drewN _ _ _) (congrArg (World.drewN _) (Nat.add_assoc _ _ _))⟩))); try go_wp2_with (first | (go_at_call 76; (with_reducible refine (spec_l30Match.calls a1_3 ((rd_T24 l0 (ji57)).f1) true _ A60.out).mono ?_); rintro e w' ⟨rfl, ⟨nd, rfl⟩⟩; (try first | exact ⟨rfl, _, World.drewN_drewN _ _ _⟩ | exact ⟨rfl, _, Eq.trans (World.drewN_drewN _ _ _) (congrArg (World.drewN _) (Nat.add_assoc _ _ _))⟩))))
                          go_ret
                          exact ⟨by first | rfl | (simp [errW_none, errW_some] <;> rfl) | (simp only [← hji57]; first | rfl | (simp [errW_none, errW_some] <;> rfl)) | (simp [*, errW_none, errW_some] <;> rfl), by repeat (first | (with_reducible first | exact HB.out | apply below_alloc | apply pw_below_drewN | apply below_drew1 | refine below_set ?_ GE461.out) | exact HB.out)⟩
                    · rw [if_neg c62] at H
                      have c62b0 : ((wrap64 ((l0.length : Int) / a2)) == 0) = false := beq_eq_false_iff_ne.mpr c62
                      have c62b1 : ((wrap64 ((l0.length : Int) / a2)) != 0) = true := bne_iff_ne.mpr c62
                      by_cases c72 : (wrap64 ((l0.length : Int) / a2)) > 0
                      · rw [if_pos c72] at H
                        have c72b0 : decide (0 < (wrap64 ((l0.length : Int) / a2))) = true := decide_eq_true c72
                        clear c72
                        obtain ⟨ji73, hji73⟩ : ∃ j_ : Int, (wrap64 ((l0.length : Int) - a2)) = j_ := ⟨_, rfl⟩
                        replace H : (if 0 ≤ (ji73) then (if (ji73) < (l0.length : Int) then ((spec_l30Match.f a1_0 ((rd_T24 l0 (ji73)).f2)).bind fun t477 => (some t477)) else (none)) else (none)) = some r := by first | (rw [hji73] at H; exact H) | (simp only [hji73] at H ⊢; exact H)
                        (try rw [hji73] at A60)
                        have hji73w : (IntKind.i64.wrap ((l0.length : Int) - a2)) = ji73 := (i64_w _).trans hji73
                        by_cases c74 : 0 ≤ (ji73)
                        · rw [if_pos c74] at H
                          have c74b0 : decide (0 ≤ (ji73)) = true := decide_eq_true c74
                          clear c74
                          by_cases c75 : (ji73) < (l0.length : Int)
                          · rw [if_pos c75] at H
                            have c75b0 : decide ((ji73) < (l0.length : Int)) = true := decide_eq_true c75
                            clear c75
                            replace H := Option.bind_eq_some_iff.mp H
                            obtain ⟨t477, A760, H⟩ := H
                            replace H : (some t477) = some r := H
                            have A76 := Aside0.mk A760
                            clear A760
                            obtain rfl := Option.some.inj H
                            have hcz77_0 : wc.cell? ⟨gb461, 0, none⟩ = some (.int .i64 a1_0) := (blk_cell BK461.out 0).trans rfl
                            have hcz77_1 : wc.cell? ⟨gb461, 1, none⟩ = some (.int .i64 a1_1) := (blk_cell BK461.out 1).trans rfl
                            have hcz77_2 : wc.cell? ⟨gb461, 2, none⟩ = some (.int .i64 a1_2) := (blk_cell BK461.out 2).trans rfl
                            have hcz77_3 : wc.cell? ⟨gb461, 3, none⟩ = some (.int .i64 a1_3) := (blk_cell BK461.out 3).trans rfl
                            have hfz77_0 := blk_frozen BK461.out 0
                            have hfz77_1 := blk_frozen BK461.out 1
                            have hfz77_2 := blk_frozen BK461.out 2
                            have hfz77_3 := blk_frozen BK461.out 3
                            have p472 : 0 ≤ ((ji57) : Int) := of_decide_eq_true (by first | (with_reducible assumption) | assumption)
                            have q472 : (ji57) < (l0.length : Int) := of_decide_eq_true (by first | (with_reducible assumption) | assumption)
                            obtain ⟨ad472, e472, hx472_0, hx472_1, hx472_2, hx472_3⟩ := at_T24 HR0.out (ji57) p472 q472
                            cases e472
                            replace hx472_0 := (HB.out.cell (World.block_lt_of_cell? w _ hx472_0)).trans hx472_0
                            replace hx472_1 := (HB.out.cell (World.block_lt_of_cell? w _ hx472_1)).trans hx472_1
                            replace hx472_2 := (HB.out.cell (World.block_lt_of_cell? w _ hx472_2)).trans hx472_2
                            replace hx472_3 := (HB.out.cell (World.block_lt_of_cell? w _ hx472_3)).trans hx472_3
                            replace p472 := eq_true p472
                            replace q472 := eq_true q472
                            go_wp2_with (first | (go_at_call 76; (with_reducible refine (spec_l30Match.calls a1_3 ((rd_T24 l0 (ji57)).f1) true _ A60.out).mono ?_); rintro e w' ⟨rfl, ⟨nd, rfl⟩⟩; (try first | exact ⟨rfl, _, World.drewN_drewN _ _ _⟩ | exact ⟨rfl, _, Eq.trans (World.drewN_drewN _ _ _) (congrArg (World.drewN _) (Nat.add_assoc _ _ _))⟩); have p476 : 0 ≤ ((ji73) : Int) := of_decide_eq_true (by first | (with_reducible assumption) | assumption); have q476 : (ji73) < (l0.length : Int) := of_decide_eq_true (by first | (with_reducible assumption) | assumption); obtain ⟨ad476, e476, hx476_0, hx476_1, hx476_2, hx476_3⟩ := at_T24 HR0.out (ji73) p476 q476; obtain rfl : ad472 = ad476 := (by injection e476); replace hx476_0 := (HB.out.cell (World.block_lt_of_cell? w _ hx476_0)).trans hx476_0; replace hx476_1 := (HB.out.cell (World.block_lt_of_cell? w _ hx476_1)).trans hx476_1; replace hx476_2 := (HB.out.cell (World.block_lt_of_cell? w _ hx476_2)).trans hx476_2; replace hx476_3 := (HB.out.cell (World.block_lt_of_cell? w _ hx476_3)).trans hx476_3; replace p476 := eq_true p476; replace q476 := eq_true q476) | (go_at_call 76; (with_reducible refine (spec_l30Match.calls a1_0 ((rd_T24 l0 (ji73)).f2) t477 _ A76.out).mono ?_); rintro e w' ⟨rfl, ⟨nd, rfl⟩⟩; (try first | exact ⟨rfl, _, World.drewN_drewN _ _ _⟩ | exact ⟨rfl, _, Eq.trans (World.drewN_drewN _ _ _) (congrArg (World.drewN _) (Nat.add_assoc _ _ _))⟩)))
                            repeat (go_quiet (first | (go_at_call 76; (with_reducible refine (spec_l30Match.calls a1_3 ((rd_T24 l0 (ji57)).f1) true _ A60.out).mono ?_); rintro e w' ⟨rfl, ⟨nd, rfl⟩⟩; (try first | exact ⟨rfl, _, World.drewN_drewN _ _ _⟩ | exact ⟨rfl, _, Eq.trans (World.drewN_drewN _ _ _) (congrArg (World.drewN _) (Nat.add_assoc _ _ _))⟩); have p476 : 0 ≤ ((ji73) : Int) := of_decide_eq_true (by first | (with_reducible assumption) | assumption); have q476 : (ji73) < (l0.length : Int) := of_decide_eq_true (by first | (with_reducible assumption) | assumption); obtain ⟨ad476, e476, hx476_0, hx476_1, hx476_2, hx476_3⟩ := at_T24 HR0.out (ji73) p476 q476; obtain rfl : ad472 = ad476 := (by injection e476); replace hx476_0 := (HB.out.cell (World.block_lt_of_cell? w _ hx476_0)).trans hx476_0; replace hx476_1 := (HB.out.cell (World.block_lt_of_cell? w _ hx476_1)).trans hx476_1; replace hx476_2 := (HB.out.cell (World.block_lt_of_cell? w _ hx476_2)).trans hx476_2; replace hx476_3 := (HB.out.cell (World.block_lt_of_cell? w _ hx476_3)).trans hx476_3; replace p476 := eq_true p476; replace q476 := eq_true q476) | (go_at_call 76; (with_reducible refine (spec_l30Match.calls a1_0 ((rd_T24 l0 (ji73)).f2) t477 _ A76.out).mono ?_); rintro e w' ⟨rfl, ⟨nd, rfl⟩⟩; (try first | exact ⟨rfl, _, World.drewN_drewN _ _ _⟩ | exact ⟨rfl, _, Eq.trans (World.drewN_drewN _ _ _) (congrArg (World.drewN _) (Nat.add_assoc _ _ _))⟩))); try go_wp2_with (first | (go_at_call 76; (with_reducible refine (spec_l30Match.calls a1_3 ((rd_T24 l0 (ji57)).f1) true _ A60.out).mono ?_); rintro e w' ⟨rfl, ⟨nd, rfl⟩⟩; (try first | exact ⟨rfl, _, World.drewN_drewN _ _ _⟩ | exact ⟨rfl, _, Eq.trans (World.drewN_drewN _ _ _) (congrArg (World.drewN _) (Nat.add_assoc _ _ _))⟩); have p476 : 0 ≤ ((ji73) : Int) := of_decide_eq_true (by first | (with_reducible assumption) | assumption); have q476 : (ji73) < (l0.length : Int) := of_decide_eq_true (by first | (with_reducible assumption) | assumption); obtain ⟨ad476, e476, hx476_0, hx476_1, hx476_2, hx476_3⟩ := at_T24 HR0.out (ji73) p476 q476; obtain rfl : ad472 = ad476 := (by injection e476); replace hx476_0 := (HB.out.cell (World.block_lt_of_cell? w _ hx476_0)).trans hx476_0; replace hx476_1 := (HB.out.cell (World.block_lt_of_cell? w _ hx476_1)).trans hx476_1; replace hx476_2 := (HB.out.cell (World.block_lt_of_cell? w _ hx476_2)).trans hx476_2; replace hx476_3 := (HB.out.cell (World.block_lt_of_cell? w _ hx476_3)).trans hx476_3; replace p476 := eq_true p476; replace q476 := eq_true q476) | (go_at_call 76; (with_reducible refine (spec_l30Match.calls a1_0 ((rd_T24 l0 (ji73)).f2) t477 _ A76.out).mono ?_); rintro e w' ⟨rfl, ⟨nd, rfl⟩⟩; (try first | exact ⟨rfl, _, World.drewN_drewN _ _ _⟩ | exact ⟨rfl, _, Eq.trans (World.drewN_drewN _ _ _) (congrArg (World.drewN _) (Nat.add_assoc _ _ _))⟩))))
                            go_ret
                            exact ⟨by first | rfl | (simp [errW_none, errW_some] <;> rfl) | (simp only [← hji57, ← hji73]; first | rfl | (simp [errW_none, errW_some] <;> rfl)) | (simp [*, errW_none, errW_some] <;> rfl), by repeat (first | (with_reducible first | exact HB.out | apply below_alloc | apply pw_below_drewN | apply below_drew1 | refine below_set ?_ GE461.out) | exact HB.out)⟩
                          · rw [if_neg c75] at H
                            exact absurd H (by simp)
                        · rw [if_neg c74] at H
                          exact absurd H (by simp)
                      · rw [if_neg c72] at H
                        have c72b0 : decide (0 < (wrap64 ((l0.length : Int) / a2))) = false := decide_eq_false c72
                        clear c72
                        obtain rfl := Option.some.inj H
                        have hcz78_0 : wc.cell? ⟨gb461, 0, none⟩ = some (.int .i64 a1_0) := (blk_cell BK461.out 0).trans rfl
                        have hcz78_1 : wc.cell? ⟨gb461, 1, none⟩ = some (.int .i64 a1_1) := (blk_cell BK461.out 1).trans rfl
                        have hcz78_2 : wc.cell? ⟨gb461, 2, none⟩ = some (.int .i64 a1_2) := (blk_cell BK461.out 2).trans rfl
                        have hcz78_3 : wc.cell? ⟨gb461, 3, none⟩ = some (.int .i64 a1_3) := (blk_cell BK461.out 3).trans rfl
                        have hfz78_0 := blk_frozen BK461.out 0
                        have hfz78_1 := blk_frozen BK461.out 1
                        have hfz78_2 := blk_frozen BK461.out 2
                        have hfz78_3 := blk_frozen BK461.out 3
                        have p472 : 0 ≤ ((ji57) : Int) := of_decide_eq_true (by first | (with_reducible assumption) | assumption)
                        have q472 : (ji57) < (l0.length : Int) := of_decide_eq_true (by first | (with_reducible assumption) | assumption)
                        obtain ⟨ad472, e472, hx472_0, hx472_1, hx472_2, hx472_3⟩ := at_T24 HR0.out (ji57) p472 q472
                        cases e472
                        replace hx472_0 := (HB.out.cell (World.block_lt_of_cell? w _ hx472_0)).trans hx472_0
                        replace hx472_1 := (HB.out.cell (World.block_lt_of_cell? w _ hx472_1)).trans hx472_1
                        replace hx472_2 := (HB.out.cell (World.block_lt_of_cell? w _ hx472_2)).trans hx472_2
                        replace hx472_3 := (HB.out.cell (World.block_lt_of_cell? w _ hx472_3)).trans hx472_3
                        replace p472 := eq_true p472
                        replace q472 := eq_true q472
                        go_wp2_with (first | (go_at_call 76; (with_reducible refine (spec_l30Match.calls a1_3 ((rd_T24 l0 (ji57)).f1) true _ A60.out).mono ?_); rintro e w' ⟨rfl, ⟨nd, rfl⟩⟩; (try first | exact ⟨rfl, _, World.drewN_drewN _ _ _⟩ | exact ⟨rfl, _, Eq.trans (World.drewN_drewN _ _ _) (congrArg (World.drewN _) (Nat.add_assoc _ _ _))⟩)))
                        repeat (go_quiet (first | (go_at_call 76; (with_reducible refine (spec_l30Match.calls a1_3 ((rd_T24 l0 (ji57)).f1) true _ A60.out).mono ?_); rintro e w' ⟨rfl, ⟨nd, rfl⟩⟩; (try first | exact ⟨rfl, _, World.drewN_drewN _ _ _⟩ | exact ⟨rfl, _, Eq.trans (World.drewN_drewN _ _ _) (congrArg (World.drewN _) (Nat.add_assoc _ _ _))⟩))); try go_wp2_with (first | (go_at_call 76; (with_reducible refine (spec_l30Match.calls a1_3 ((rd_T24 l0 (ji57)).f1) true _ A60.out).mono ?_); rintro e w' ⟨rfl, ⟨nd, rfl⟩⟩; (try first | exact ⟨rfl, _, World.drewN_drewN _ _ _⟩ | exact ⟨rfl, _, Eq.trans (World.drewN_drewN _ _ _) (congrArg (World.drewN _) (Nat.add_assoc _ _ _))⟩))))
                        go_ret
                        exact ⟨by first | rfl | (simp [errW_none, errW_some] <;> rfl) | (simp only [← hji57]; first | rfl | (simp [errW_none, errW_some] <;> rfl)) | (simp [*, errW_none, errW_some] <;> rfl), by repeat (first | (with_reducible first | exact HB.out | apply below_alloc | apply pw_below_drewN | apply below_drew1 | refine below_set ?_ GE461.out) | exact HB.out)⟩
                  · replace c61 := Bool.eq_false_iff.mpr c61
                    subst c61
                    have H1 : (some false) = some r := by rw [if_neg (show ¬ (false = true) by decide)] at H; exact H
                    clear H
                    have H := H1
                    clear H1
                    obtain rfl := Option.some.inj H
                    have hcz79_0 : wc.cell? ⟨gb461, 0, none⟩ = some (.int .i64 a1_0) := (blk_cell BK461.out 0).trans rfl
                    have hcz79_1 : wc.cell? ⟨gb461, 1, none⟩ = some (.int .i64 a1_1) := (blk_cell BK461.out 1).trans rfl
                    have hcz79_2 : wc.cell? ⟨gb461, 2, none⟩ = some (.int .i64 a1_2) := (blk_cell BK461.out 2).trans rfl
                    have hcz79_3 : wc.cell? ⟨gb461, 3, none⟩ = some (.int .i64 a1_3) := (blk_cell BK461.out 3).trans rfl
                    have hfz79_0 := blk_frozen BK461.out 0
                    have hfz79_1 := blk_frozen BK461.out 1
                    have hfz79_2 := blk_frozen BK461.out 2
                    have hfz79_3 := blk_frozen BK461.out 3
                    have p472 : 0 ≤ ((ji57) : Int) := of_decide_eq_true (by first | (with_reducible assumption) | assumption)
                    have q472 : (ji57) < (l0.length : Int) := of_decide_eq_true (by first | (with_reducible assumption) | assumption)
                    obtain ⟨ad472, e472, hx472_0, hx472_1, hx472_2, hx472_3⟩ := at_T24 HR0.out (ji57) p472 q472
                    cases e472
                    replace hx472_0 := (HB.out.cell (World.block_lt_of_cell? w _ hx472_0)).trans hx472_0
                    replace hx472_1 := (HB.out.cell (World.block_lt_of_cell? w _ hx472_1)).trans hx472_1
                    replace hx472_2 := (HB.out.cell (World.block_lt_of_cell? w _ hx472_2)).trans hx472_2
                    replace hx472_3 := (HB.out.cell (World.block_lt_of_cell? w _ hx472_3)).trans hx472_3
                    replace p472 := eq_true p472
                    replace q472 := eq_true q472
                    go_wp2_with (first | (go_at_call 76; (with_reducible refine (spec_l30Match.calls a1_3 ((rd_T24 l0 (ji57)).f1) false _ A60.out).mono ?_); rintro e w' ⟨rfl, ⟨nd, rfl⟩⟩; (try first | exact ⟨rfl, _, World.drewN_drewN _ _ _⟩ | exact ⟨rfl, _, Eq.trans (World.drewN_drewN _ _ _) (congrArg (World.drewN _) (Nat.add_assoc _ _ _))⟩)))
                    repeat (go_quiet (first | (go_at_call 76; (with_reducible refine (spec_l30Match.calls a1_3 ((rd_T24 l0 (ji57)).f1) false _ A60.out).mono ?_); rintro e w' ⟨rfl, ⟨nd, rfl⟩⟩; (try first | exact ⟨rfl, _, World.drewN_drewN _ _ _⟩ | exact ⟨rfl, _, Eq.trans (World.drewN_drewN _ _ _) (congrArg (World.drewN _) (Nat.add_assoc _ _ _))⟩))); try go_wp2_with (first | (go_at_call 76; (with_reducible refine (spec_l30Match.calls a1_3 ((rd_T24 l0 (ji57)).f1) false _ A60.out).mono ?_); rintro e w' ⟨rfl, ⟨nd, rfl⟩⟩; (try first | exact ⟨rfl, _, World.drewN_drewN _ _ _⟩ | exact ⟨rfl, _, Eq.trans (World.drewN_drewN _ _ _) (congrArg (World.drewN _) (Nat.add_assoc _ _ _))⟩))))
                    go_ret
                    exact ⟨by first | rfl | (simp [errW_none, errW_some] <;> rfl) | (simp only [← hji57]; first | rfl | (simp [errW_none, errW_some] <;> rfl)) | (simp [*, errW_none, errW_some] <;> rfl), by repeat (first | (with_reducible first | exact HB.out | apply below_alloc | apply pw_below_drewN | apply below_drew1 | refine below_set ?_ GE461.out) | exact HB.out)⟩
                · rw [if_neg c59] at H
                  exact absurd H (by simp)
              · rw [if_neg c58] at H
                exact absurd H (by simp)
            · rw [if_neg c56] at H
              have c56b0 : decide (0 < ((l0.length : Int) % a2)) = false := decide_eq_false c56
              clear c56
              by_cases c80 : (wrap64 ((l0.length : Int) / a2)) = 0
              · rw [if_pos c80] at H
                have c80b0 : ((wrap64 ((l0.length : Int) / a2)) == 0) = true := beq_iff_eq.mpr c80
                have c80b1 : ((wrap64 ((l0.length : Int) / a2)) != 0) = false := bne_eq_false_iff_eq.mpr c80
                clear c80
                by_cases c81 : a1_0 = 0
                · rw [if_pos c81] at H
                  have c81b0 : (a1_0 == 0) = true := beq_iff_eq.mpr c81
                  have c81b1 : (a1_0 != 0) = false := bne_eq_false_iff_eq.mpr c81
                  clear c81
                  obtain rfl := Option.some.inj H
                  have hcz82_0 : wc.cell? ⟨gb461, 0, none⟩ = some (.int .i64 a1_0) := (blk_cell BK461.out 0).trans rfl
                  have hcz82_1 : wc.cell? ⟨gb461, 1, none⟩ = some (.int .i64 a1_1) := (blk_cell BK461.out 1).trans rfl
                  have hcz82_2 : wc.cell? ⟨gb461, 2, none⟩ = some (.int .i64 a1_2) := (blk_cell BK461.out 2).trans rfl
                  have hcz82_3 : wc.cell? ⟨gb461, 3, none⟩ = some (.int .i64 a1_3) := (blk_cell BK461.out 3).trans rfl
                  have hfz82_0 := blk_frozen BK461.out 0
                  have hfz82_1 := blk_frozen BK461.out 1
                  have hfz82_2 := blk_frozen BK461.out 2
                  have hfz82_3 := blk_frozen BK461.out 3
                  go_wp2
                  repeat (go_quiet (fail); try go_wp2)
                  go_ret
                  exact ⟨by first | rfl | (simp [errW_none, errW_some] <;> rfl) | (simp [*, errW_none, errW_some] <;> rfl), by repeat (first | (with_reducible first | exact HB.out | apply below_alloc | apply pw_below_drewN | apply below_drew1 | refine below_set ?_ GE461.out) | exact HB.out)⟩
                · rw [if_neg c81] at H
                  have c81b0 : (a1_0 == 0) = false := beq_eq_false_iff_ne.mpr c81
                  have c81b1 : (a1_0 != 0) = true := bne_iff_ne.mpr c81
                  by_cases c83 : (wrap64 ((l0.length : Int) / a2)) > 0
                  · rw [if_pos c83] at H
                    have c83b0 : decide (0 < (wrap64 ((l0.length : Int) / a2))) = true := decide_eq_true c83
                    clear c83
                    obtain ⟨ji84, hji84⟩ : ∃ j_ : Int, (wrap64 ((l0.length : Int) - a2)) = j_ := ⟨_, rfl⟩
                    replace H : (if 0 ≤ (ji84) then (if (ji84) < (l0.length : Int) then ((spec_l30Match.f a1_0 ((rd_T24 l0 (ji84)).f2)).bind fun t479 => (some t479)) else (none)) else (none)) = some r := by first | (rw [hji84] at H; exact H) | (simp only [hji84] at H ⊢; exact H)
                    have hji84w : (IntKind.i64.wrap ((l0.length : Int) - a2)) = ji84 := (i64_w _).trans hji84
                    by_cases c85 : 0 ≤ (ji84)
                    · rw [if_pos c85] at H
                      have c85b0 : decide (0 ≤ (ji84)) = true := decide_eq_true c85
                      clear c85
                      by_cases c86 : (ji84) < (l0.length : Int)
                      · rw [if_pos c86] at H
                        have c86b0 : decide ((ji84) < (l0.length : Int)) = true := decide_eq_true c86
                        clear c86
                        replace H := Option.bind_eq_some_iff.mp H
                        obtain ⟨t479, A870, H⟩ := H
                        replace H : (some t479) = some r := H
                        have A87 := Aside0.mk A870
                        clear A870
                        obtain rfl := Option.some.inj H
                        have hcz88_0 : wc.cell? ⟨gb461, 0, none⟩ = some (.int .i64 a1_0) := (blk_cell BK461.out 0).trans rfl
                        have hcz88_1 : wc.cell? ⟨gb461, 1, none⟩ = some (.int .i64 a1_1) := (blk_cell BK461.out 1).trans rfl
                        have hcz88_2 : wc.cell? ⟨gb461, 2, none⟩ = some (.int .i64 a1_2) := (blk_cell BK461.out 2).trans rfl
                        have hcz88_3 : wc.cell? ⟨gb461, 3, none⟩ = some (.int .i64 a1_3) := (blk_cell BK461.out 3).trans rfl
                        have hfz88_0 := blk_frozen BK461.out 0
                        have hfz88_1 := blk_frozen BK461.out 1
                        have hfz88_2 := blk_frozen BK461.out 2
                        have hfz88_3 := blk_frozen BK461.out 3
                        have p478 : 0 ≤ ((ji84) : Int) := of_decide_eq_true (by first | (with_reducible assumption) | assumption)
                        have q478 : (ji84) < (l0.length : Int) := of_decide_eq_true (by first | (with_reducible assumption) | assumption)
                        obtain ⟨ad478, e478, hx478_0, hx478_1, hx478_2, hx478_3⟩ := at_T24 HR0.out (ji84) p478 q478
                        cases e478
                        replace hx478_0 := (HB.out.cell (World.block_lt_of_cell? w _ hx478_0)).trans hx478_0
                        replace hx478_1 := (HB.out.cell (World.block_lt_of_cell? w _ hx478_1)).trans hx478_1
                        replace hx478_2 := (HB.out.cell (World.block_lt_of_cell? w _ hx478_2)).trans hx478_2
                        replace hx478_3 := (HB.out.cell (World.block_lt_of_cell? w _ hx478_3)).trans hx478_3
                        replace p478 := eq_true p478
                        replace q478 := eq_true q478
                        go_wp2_with (first | (go_at_call 76; (with_reducible refine (spec_l30Match.calls a1_0 ((rd_T24 l0 (ji84)).f2) t479 _ A87.out).mono ?_); rintro e w' ⟨rfl, ⟨nd, rfl⟩⟩; (try first | exact ⟨rfl, _, World.drewN_drewN _ _ _⟩ | exact ⟨rfl, _, Eq.trans (World.drewN_drewN _ _ _) (congrArg (World.drewN _) (Nat.add_assoc _ _ _))⟩)))
                        repeat (go_quiet (first | (go_at_call 76; (with_reducible refine (spec_l30Match.calls a1_0 ((rd_T24 l0 (ji84)).f2) t479 _ A87.out).mono ?_); rintro e w' ⟨rfl, ⟨nd, rfl⟩⟩; (try first | exact ⟨rfl, _, World.drewN_drewN _ _ _⟩ | exact ⟨rfl, _, Eq.trans (World.drewN_drewN _ _ _) (congrArg (World.drewN _) (Nat.add_assoc _ _ _))⟩))); try go_wp2_with (first | (go_at_call 76; (with_reducible refine (spec_l30Match.calls a1_0 ((rd_T24 l0 (ji84)).f2) t479 _ A87.out).mono ?_); rintro e w' ⟨rfl, ⟨nd, rfl⟩⟩; (try first | exact ⟨rfl, _, World.drewN_drewN _ _ _⟩ | exact ⟨rfl, _, Eq.trans (World.drewN_drewN _ _ _) (congrArg (World.drewN _) (Nat.add_assoc _ _ _))⟩))))
                        go_ret
                        exact ⟨by first | rfl | (simp [errW_none, errW_some] <;> rfl) | (simp only [← hji84]; first | rfl | (simp [errW_none, errW_some] <;> rfl)) | (simp [*, errW_none, errW_some] <;> rfl), by repeat (first | (with_reducible first | exact HB.out | apply below_alloc | apply pw_below_drewN | apply below_drew1 | refine below_set ?_ GE461.out) | exact HB.out)⟩
                      · rw [if_neg c86] at H
                        exact absurd H (by simp)
                    · rw [if_neg c85] at H
                      exact absurd H (by simp)
                  · rw [if_neg c83] at H
                    have c83b0 : decide (0 < (wrap64 ((l0.length : Int) / a2))) = false := decide_eq_false c83
                    clear c83
                    obtain rfl := Option.some.inj H
                    have hcz89_0 : wc.cell? ⟨gb461, 0, none⟩ = some (.int .i64 a1_0) := (blk_cell BK461.out 0).trans rfl
                    have hcz89_1 : wc.cell? ⟨gb461, 1, none⟩ = some (.int .i64 a1_1) := (blk_cell BK461.out 1).trans rfl
                    have hcz89_2 : wc.cell? ⟨gb461, 2, none⟩ = some (.int .i64 a1_2) := (blk_cell BK461.out 2).trans rfl
                    have hcz89_3 : wc.cell? ⟨gb461, 3, none⟩ = some (.int .i64 a1_3) := (blk_cell BK461.out 3).trans rfl
                    have hfz89_0 := blk_frozen BK461.out 0
                    have hfz89_1 := blk_frozen BK461.out 1
                    have hfz89_2 := blk_frozen BK461.out 2
                    have hfz89_3 := blk_frozen BK461.out 3
                    go_wp2
                    repeat (go_quiet (fail); try go_wp2)
                    go_ret
                    exact ⟨by first | rfl | (simp [errW_none, errW_some] <;> rfl) | (simp [*, errW_none, errW_some] <;> rfl), by repeat (first | (with_reducible first | exact HB.out | apply below_alloc | apply pw_below_drewN | apply below_drew1 | refine below_set ?_ GE461.out) | exact HB.out)⟩
              · rw [if_neg c80] at H
                have c80b0 : ((wrap64 ((l0.length : Int) / a2)) == 0) = false := beq_eq_false_iff_ne.mpr c80
                have c80b1 : ((wrap64 ((l0.length : Int) / a2)) != 0) = true := bne_iff_ne.mpr c80
                by_cases c90 : (wrap64 ((l0.length : Int) / a2)) > 0
                · rw [if_pos c90] at H
                  have c90b0 : decide (0 < (wrap64 ((l0.length : Int) / a2))) = true := decide_eq_true c90
                  clear c90
                  obtain ⟨ji91, hji91⟩ : ∃ j_ : Int, (wrap64 ((l0.length : Int) - a2)) = j_ := ⟨_, rfl⟩
                  replace H : (if 0 ≤ (ji91) then (if (ji91) < (l0.length : Int) then ((spec_l30Match.f a1_0 ((rd_T24 l0 (ji91)).f2)).bind fun t481 => (some t481)) else (none)) else (none)) = some r := by first | (rw [hji91] at H; exact H) | (simp only [hji91] at H ⊢; exact H)
                  have hji91w : (IntKind.i64.wrap ((l0.length : Int) - a2)) = ji91 := (i64_w _).trans hji91
                  by_cases c92 : 0 ≤ (ji91)
                  · rw [if_pos c92] at H
                    have c92b0 : decide (0 ≤ (ji91)) = true := decide_eq_true c92
                    clear c92
                    by_cases c93 : (ji91) < (l0.length : Int)
                    · rw [if_pos c93] at H
                      have c93b0 : decide ((ji91) < (l0.length : Int)) = true := decide_eq_true c93
                      clear c93
                      replace H := Option.bind_eq_some_iff.mp H
                      obtain ⟨t481, A940, H⟩ := H
                      replace H : (some t481) = some r := H
                      have A94 := Aside0.mk A940
                      clear A940
                      obtain rfl := Option.some.inj H
                      have hcz95_0 : wc.cell? ⟨gb461, 0, none⟩ = some (.int .i64 a1_0) := (blk_cell BK461.out 0).trans rfl
                      have hcz95_1 : wc.cell? ⟨gb461, 1, none⟩ = some (.int .i64 a1_1) := (blk_cell BK461.out 1).trans rfl
                      have hcz95_2 : wc.cell? ⟨gb461, 2, none⟩ = some (.int .i64 a1_2) := (blk_cell BK461.out 2).trans rfl
                      have hcz95_3 : wc.cell? ⟨gb461, 3, none⟩ = some (.int .i64 a1_3) := (blk_cell BK461.out 3).trans rfl
                      have hfz95_0 := blk_frozen BK461.out 0
                      have hfz95_1 := blk_frozen BK461.out 1
                      have hfz95_2 := blk_frozen BK461.out 2
                      have hfz95_3 := blk_frozen BK461.out 3
                      have p480 : 0 ≤ ((ji91) : Int) := of_decide_eq_true (by first | (with_reducible assumption) | assumption)
                      have q480 : (ji91) < (l0.length : Int) := of_decide_eq_true (by first | (with_reducible assumption) | assumption)
                      obtain ⟨ad480, e480, hx480_0, hx480_1, hx480_2, hx480_3⟩ := at_T24 HR0.out (ji91) p480 q480
                      cases e480
                      replace hx480_0 := (HB.out.cell (World.block_lt_of_cell? w _ hx480_0)).trans hx480_0
                      replace hx480_1 := (HB.out.cell (World.block_lt_of_cell? w _ hx480_1)).trans hx480_1
                      replace hx480_2 := (HB.out.cell (World.block_lt_of_cell? w _ hx480_2)).trans hx480_2
                      replace hx480_3 := (HB.out.cell (World.block_lt_of_cell? w _ hx480_3)).trans hx480_3
                      replace p480 := eq_true p480
                      replace q480 := eq_true q480
                      go_wp2_with (first | (go_at_call 76; (with_reducible refine (spec_l30Match.calls a1_0 ((rd_T24 l0 (ji91)).f2) t481 _ A94.out).mono ?_); rintro e w' ⟨rfl, ⟨nd, rfl⟩⟩; (try first | exact ⟨rfl, _, World.drewN_drewN _ _ _⟩ | exact ⟨rfl, _, Eq.trans (World.drewN_drewN _ _ _) (congrArg (World.drewN _) (Nat.add_assoc _ _ _))⟩)))
                      repeat (go_quiet (first | (go_at_call 76; (with_reducible refine (spec_l30Match.calls a1_0 ((rd_T24 l0 (ji91)).f2) t481 _ A94.out).mono ?_); rintro e w' ⟨rfl, ⟨nd, rfl⟩⟩; (try first | exact ⟨rfl, _, World.drewN_drewN _ _ _⟩ | exact ⟨rfl, _, Eq.trans (World.drewN_drewN _ _ _) (congrArg (World.drewN _) (Nat.add_assoc _ _ _))⟩))); try go_wp2_with (first | (go_at_call 76; (with_reducible refine (spec_l30Match.calls a1_0 ((rd_T24 l0 (ji91)).f2) t481 _ A94.out).mono ?_); rintro e w' ⟨rfl, ⟨nd, rfl⟩⟩; (try first | exact ⟨rfl, _, World.drewN_drewN _ _ _⟩ | exact ⟨rfl, _, Eq.trans (World.drewN_drewN _ _ _) (congrArg (World.drewN _) (Nat.add_assoc _ _ _))⟩))))
                      go_ret
                      exact ⟨by first | rfl | (simp [errW_none, errW_some] <;> rfl) | (simp only [← hji91]; first | rfl | (simp [errW_none, errW_some] <;> rfl)) | (simp [*, errW_none, errW_some] <;> rfl), by repeat (first | (with_reducible first | exact HB.out | apply below_alloc | apply pw_below_drewN | apply below_drew1 | refine below_set ?_ GE461.out) | exact HB.out)⟩
                    · rw [if_neg c93] at H
                      exact absurd H (by simp)
                  · rw [if_neg c92] at H
                    exact absurd H (by simp)
                · rw [if_neg c90] at H
                  have c90b0 : decide (0 < (wrap64 ((l0.length : Int) / a2))) = false := decide_eq_false c90
                  clear c90
                  obtain rfl := Option.some.inj H
                  go_wp2
                  repeat (go_quiet (fail); try go_wp2)
                  go_ret
                  exact ⟨by first | rfl | (simp [errW_none, errW_some] <;> rfl) | (simp [*, errW_none, errW_some] <;> rfl), by repeat (first | (with_reducible first | exact HB.out | apply below_alloc | apply pw_below_drewN | apply below_drew1 | refine below_set ?_ GE461.out) | exact HB.out)⟩

end Go.Proofs.Ytgcagmmghckbbaa.A




namespace Go.Proofs.Ytgcagmmghckbbaa.A
open Go.RowKit Go.Proofs.YtgcagmmghckbbaaW.PrintWords Go.Proofs.YtgcagmmghckbbaaW.PrintLast Go.Proofs.YtgcagmmghckbbaaW.PrintMore
attribute [local go_sem] max2_int min2_int max_two min_two max_three min_three max_four min_four   -- for this text's walks alone
set_option linter.unusedVariables false
set_option linter.unusedSimpArgs false

def impl_jigsawCode.f (k : Nat) (l0 : List (S24)) (a1 : Int) (a2 : Int) : Option (Int) := (impl_areTiles.f k l0).bind fun t521 => (if t521 = true then ((impl_within.f a1 1 6).bind fun t522 => (if t522 = true then ((impl_within.f a2 1 6).bind fun t523 => (if t523 = true then (if (wrap64 (a1 * a2)) = (l0.length : Int) then (if (l0.length : Int) > 12 then (some 2) else (some 0)) else (some 2)) else (some 2))) else (some 2))) else (some 1))
set_option maxHeartbeats 8000000 in
set_option maxRecDepth 100000 in
theorem impl_jigsawCode.calls (k : Nat) (A0 : Option Addr) (c0 : Nat) (l0 : List (S24)) (a1 : Int) (a2 : Int) (r : Int) (w : World) (hr0 : Kd.C k24 w A0 l0.length l0) (hc0 : l0.length ≤ c0) (h : impl_jigsawCode.f k l0 a1 a2 = some r) :
    Calls Try.prog 63 #[.slice A0 l0.length c0, .int .i64 a1, .int .i64 a2] w fun e w' => e = .returned (.int .i64 r) ∧ Below w.heap.size w w' := by
  have HR0 := Aside0.mk hr0
  have HC0 := Aside0.mk hc0
  clear hr0 hc0
  have HB := Aside0.mk (Below.refl w.heap.size w)
  have H : ((impl_areTiles.f k l0).bind fun t521 => (if t521 = true then ((impl_within.f a1 1 6).bind fun t522 => (if t522 = true then ((impl_within.f a2 1 6).bind fun t523 => (if t523 = true then (if (wrap64 (a1 * a2)) = (l0.length : Int) then (if (l0.length : Int) > 12 then (some 2) else (some 0)) else (some 2)) else (some 2))) else (some 2))) else (some 1))) = some r := h
  clear h
  replace H := Option.bind_eq_some_iff.mp H
  obtain ⟨t521, A40, H⟩ := H
  replace H : (if t521 = true then ((impl_within.f a1 1 6).bind fun t522 => (if t522 = true then ((impl_within.f a2 1 6).bind fun t523 => (if t523 = true then (if (wrap64 (a1 * a2)) = (l0.length : Int) then (if (l0.length : Int) > 12 then (some 2) else (some 0)) else (some 2)) else (some 2))) else (some 2))) else (some 1)) = some r := H
  have A4 := Aside0.mk A40
  clear A40
  have H0_ := Aside0.mk H
  clear H
  go_enter Try.func63, Try.ntmps63
  go_wp2_with (first | ((with_reducible refine gate_callee (f := 75) rfl ?_); refine goesL_ (some 8) rfl rfl Try.func75 (by kernel_rfl) rfl #[.slice A0 l0.length c0] rfl (by (try simp only [List.map_toArray, List.map_cons, List.map_nil]); first | done | rfl | (simp only [List.length_drop, List.length_take]; rfl)) ?_; (with_reducible refine (impl_areTiles.calls k _ _ l0 t521 _ ?side1 ?side2 A4.out).mono ?_); (case side1 => repeat (first | exact HR0.out | (with_reducible refine Kd.C_alloc ?_ _) | (with_reducible refine Kd.C_drewN ?_ _) | (with_reducible refine Kd.C_drew ?_))); (case side2 => exact HC0.out); rintro e w5 ⟨rfl, hb⟩; refine ⟨_, rfl, ?_⟩; have n0_ := Aside0.mk (below_step (by repeat (first | (with_reducible first | exact HB.out | apply below_alloc | apply pw_below_drewN | apply below_drew1) | exact HB.out)) hb); clear HB; have HB := n0_; clear n0_; (try clear hb); (try clear hb2); (try clear hk); (try clear hi); refine Stop0.out ?_))
  refine Stop0.mk ?_
  have H := H0_.out
  clear H0_
  by_cases c6 : t521 = true
  · subst c6
    have H1 : ((impl_within.f a1 1 6).bind fun t522 => (if t522 = true then ((impl_within.f a2 1 6).bind fun t523 => (if t523 = true then (if (wrap64 (a1 * a2)) = (l0.length : Int) then (if (l0.length : Int) > 12 then (some 2) else (some 0)) else (some 2)) else (some 2))) else (some 2))) = some r := by rw [if_pos rfl] at H; exact H
    clear H
    have H := H1
    clear H1
    replace H := Option.bind_eq_some_iff.mp H
    obtain ⟨t522, A70, H⟩ := H
    replace H : (if t522 = true then ((impl_within.f a2 1 6).bind fun t523 => (if t523 = true then (if (wrap64 (a1 * a2)) = (l0.length : Int) then (if (l0.length : Int) > 12 then (some 2) else (some 0)) else (some 2)) else (some 2))) else (some 2)) = some r := H
    have A7 := Aside0.mk A70
    clear A70
    have H0_ := Aside0.mk H
    clear H
    go_wp2_with (first | ((with_reducible refine gate_callee (f := 53) rfl ?_); refine goesL_ (some 11) rfl rfl Try.func53 (by kernel_rfl) rfl #[.int .i64 a1, .int .i64 1, .int .i64 6] rfl (by (try simp only [List.map_toArray, List.map_cons, List.map_nil]); first | done | rfl | (simp only [List.length_drop, List.length_take]; rfl)) ?_; (with_reducible refine (impl_within.calls a1 1 6 t522 _ A7.out).mono ?_); rintro e w' ⟨rfl, ⟨nd, rfl⟩⟩; refine ⟨_, rfl, ?_⟩; refine Stop0.out ?_))
    refine Stop0.mk ?_
    have H := H0_.out
    clear H0_
    by_cases c8 : t522 = true
    · subst c8
      have H1 : ((impl_within.f a2 1 6).bind fun t523 => (if t523 = true then (if (wrap64 (a1 * a2)) = (l0.length : Int) then (if (l0.length : Int) > 12 then (some 2) else (some 0)) else (some 2)) else (some 2))) = some r := by rw [if_pos rfl] at H; exact H
      clear H
      have H := H1
      clear H1
      replace H := Option.bind_eq_some_iff.mp H
      obtain ⟨t523, A90, H⟩ := H
      replace H : (if t523 = true then (if (wrap64 (a1 * a2)) = (l0.length : Int) then (if (l0.length : Int) > 12 then (some 2) else (some 0)) else (some 2)) else (some 2)) = some r := H
      have A9 := Aside0.mk A90
      clear A90
      have H0_ := Aside0.mk H
      clear H
      go_wp2_with (first | (go_at_call 53; (with_reducible refine (impl_within.calls a2 1 6 t523 _ A9.out).mono ?_); rintro e w' ⟨rfl, ⟨nd, rfl⟩⟩; refine Stop0.out ?_))
      refine Stop0.mk ?_
      have H := H0_.out
      clear H0_
      by_cases c10 : t523 = true
      · subst c10
        have H1 : (if (wrap64 (a1 * a2)) = (l0.length : Int) then (if (l0.length : Int) > 12 then (some 2) else (some 0)) else (some 2)) = some r := by rw [if_pos rfl] at H; exact H
        clear H
        have H := H1
        clear H1
        by_cases c11 : (wrap64 (a1 * a2)) = (l0.length : Int)
        · rw [if_pos c11] at H
          have c11b0 : ((wrap64 (a1 * a2)) == (l0.length : Int)) = true := beq_iff_eq.mpr c11
          have c11b1 : ((wrap64 (a1 * a2)) != (l0.length : Int)) = false := bne_eq_false_iff_eq.mpr c11
          clear c11
          by_cases c12 : (l0.length : Int) > 12
          · rw [if_pos c12] at H
            have c12b0 : decide (12 < (l0.length : Int)) = true := decide_eq_true c12
            have c12b1 : decide (12 < l0.length) = true := decide_eq_true (by omega)
            clear c12
            obtain rfl := Option.some.inj H
            go_wp2
            go_ret
            exact ⟨by first | rfl | (simp [errW_none, errW_some] <;> rfl) | (simp [*, errW_none, errW_some] <;> rfl), by repeat (first | (with_reducible first | exact HB.out | apply below_alloc | apply pw_below_drewN | apply below_drew1) | exact HB.out)⟩
          · rw [if_neg c12] at H
            have c12b0 : decide (12 < (l0.length : Int)) = false := decide_eq_false c12
            have c12b1 : decide (12 < l0.length) = false := decide_eq_false (by omega)
            clear c12
            obtain rfl := Option.some.inj H
            go_wp2
            go_ret
            exact ⟨by first | rfl | (simp [errW_none, errW_some] <;> rfl) | (simp [*, errW_none, errW_some] <;> rfl), by repeat (first | (with_reducible first | exact HB.out | apply below_alloc | apply pw_below_drewN | apply below_drew1) | exact HB.out)⟩
        · rw [if_neg c11] at H
          have c11b0 : ((wrap64 (a1 * a2)) == (l0.length : Int)) = false := beq_eq_false_iff_ne.mpr c11
          have c11b1 : ((wrap64 (a1 * a2)) != (l0.length : Int)) = true := bne_iff_ne.mpr c11
          obtain rfl := Option.some.inj H
          go_wp2
          go_ret
          exact ⟨by first | rfl | (simp [errW_none, errW_some] <;> rfl) | (simp [*, errW_none, errW_some] <;> rfl), by repeat (first | (with_reducible first | exact HB.out | apply below_alloc | apply pw_below_drewN | apply below_drew1) | exact HB.out)⟩
      · replace c10 := Bool.eq_false_iff.mpr c10
        subst c10
        have H1 : (some 2) = some r := by rw [if_neg (show ¬ (false = true) by decide)] at H; exact H
        clear H
        have H := H1
        clear H1
        obtain rfl := Option.some.inj H
        go_wp2
        go_ret
        exact ⟨by first | rfl | (simp [errW_none, errW_some] <;> rfl) | (simp [*, errW_none, errW_some] <;> rfl), by repeat (first | (with_reducible first | exact HB.out | apply below_alloc | apply pw_below_drewN | apply below_drew1) | exact HB.out)⟩
    · replace c8 := Bool.eq_false_iff.mpr c8
      subst c8
      have H1 : (some 2) = some r := by rw [if_neg (show ¬ (false = true) by decide)] at H; exact H
      clear H
      have H := H1
      clear H1
      obtain rfl := Option.some.inj H
      go_wp2
      go_ret
      exact ⟨by first | rfl | (simp [errW_none, errW_some] <;> rfl) | (simp [*, errW_none, errW_some] <;> rfl), by repeat (first | (with_reducible first | exact HB.out | apply below_alloc | apply pw_below_drewN | apply below_drew1) | exact HB.out)⟩
  · replace c6 := Bool.eq_false_iff.mpr c6
    subst c6
    have H1 : (some 1) = some r := by rw [if_neg (show ¬ (false = true) by decide)] at H; exact H
    clear H
    have H := H1
    clear H1
    obtain rfl := Option.some.inj H
    go_wp2
    go_ret
    exact ⟨by first | rfl | (simp [errW_none, errW_some] <;> rfl) | (simp [*, errW_none, errW_some] <;> rfl), by repeat (first | (with_reducible first | exact HB.out | apply below_alloc | apply pw_below_drewN | apply below_drew1) | exact HB.out)⟩

end Go.Proofs.Ytgcagmmghckbbaa.A

namespace Go.Proofs.Ytgcagmmghckbbaa.A
open Go.RowKit Go.Proofs.YtgcagmmghckbbaaW.PrintWords Go.Proofs.YtgcagmmghckbbaaW.PrintLast Go.Proofs.YtgcagmmghckbbaaW.PrintMore
attribute [local go_sem] max2_int min2_int max_two min_two max_three min_three max_four min_four   -- for this text's walks alone
set_option linter.unusedVariables false
set_option linter.unusedSimpArgs false

def impl_match.f (a0 : Int) (a1 : Int) : Option (Bool) := if a0 = 0 then (some false) else (if a1 = 0 then (some false) else (some ((wrap64 (a0 + a1)) == 0)))
set_option maxHeartbeats 8000000 in
set_option maxRecDepth 100000 in
theorem impl_match.calls (a0 : Int) (a1 : Int) (r : Bool) (w : World) (h : impl_match.f a0 a1 = some r) :
    Calls Try.prog 82 #[.int .i64 a0, .int .i64 a1] w fun e w' => e = .returned (.bool r) ∧ Drawn0 w w' := by
  have H : (if a0 = 0 then (some false) else (if a1 = 0 then (some false) else (some ((wrap64 (a0 + a1)) == 0)))) = some r := h
  clear h
  by_cases c3 : a0 = 0
  · rw [if_pos c3] at H
    have c3b0 : (a0 == 0) = true := beq_iff_eq.mpr c3
    have c3b1 : (a0 != 0) = false := bne_eq_false_iff_eq.mpr c3
    clear c3
    obtain rfl := Option.some.inj H
    go_enter Try.func82, Try.ntmps82
    go_wp2
    go_ret
    exact ⟨by first | rfl | (simp; done) | (simp [*]; done), by repeat (first | exact Drawn0.refl _ | apply Drawn0.step)⟩
  · rw [if_neg c3] at H
    have c3b0 : (a0 == 0) = false := beq_eq_false_iff_ne.mpr c3
    have c3b1 : (a0 != 0) = true := bne_iff_ne.mpr c3
    by_cases c4 : a1 = 0
    · rw [if_pos c4] at H
      have c4b0 : (a1 == 0) = true := beq_iff_eq.mpr c4
      have c4b1 : (a1 != 0) = false := bne_eq_false_iff_eq.mpr c4
      clear c4
      obtain rfl := Option.some.inj H
      go_enter Try.func82, Try.ntmps82
      go_wp2
      go_ret
      exact ⟨by first | rfl | (simp; done) | (simp [*]; done), by repeat (first | exact Drawn0.refl _ | apply Drawn0.step)⟩
    · rw [if_neg c4] at H
      have c4b0 : (a1 == 0) = false := beq_eq_false_iff_ne.mpr c4
      have c4b1 : (a1 != 0) = true := bne_iff_ne.mpr c4
      obtain rfl := Option.some.inj H
      go_enter Try.func82, Try.ntmps82
      go_wp2
      go_ret
      exact ⟨by first | rfl | (simp; done) | (simp [*]; done), by repeat (first | exact Drawn0.refl _ | apply Drawn0.step)⟩

end Go.Proofs.Ytgcagmmghckbbaa.A

