/- What the row of the law FnLayouts stands on, part 6. -/
import Derived.Test.YtgcagmmghckbbaaMFnLayouts5
/- Arguments of a law opened as plain data, kind by kind: what can be read at a type is a value of its kind. -/
namespace Go.Proofs.Ytgcagmmghckbbaa.Opn
open Go.RowKit Go.Proofs.YtgcagmmghckbbaaW.PrintWords
/-- What reads at type t is a value of kind d, of which ok holds. -/
def Op {α : Type} (P : Program) (t : TypeId) (d : Kd α) (ok : α → Prop) : Prop :=
  ∀ (H : Type) (enc : TypeId × Value → H) (W : World) (fuel : Nat) (cs : List Value) (x : DataW H × List MemPlace),
    DataW.trod enc P W 0 (fun _ => true) true fuel t cs = some x → ∃ a : α, d.K W a cs ∧ ok a
/-- The same of a struct's fields from one on, which begins at cell o. -/
def OpF {α : Type} (P : Program) (o : Nat) (fs : List Field) (d : Kd α) (ok : α → Prop) : Prop :=
  ∀ (H : Type) (enc : TypeId × Value → H) (W : World) (fuel : Nat) (cs : List Value) (xs : List (DataW H × List MemPlace)), cs.length = o + d.sz →
    xs.length = fs.length → (∀ (i : Nat) (f : Field), fs[i]? = some f → DataW.trod enc P W 0 (fun _ => true) true fuel f.type ((cs.drop f.offset).take (P.cellsOf f.type)) = xs[i]?) → ∃ a : α, d.K W a (cs.drop o) ∧ ok a
def okInt (k : IntKind) (n : Int) : Prop := (Lit.int k n).wf = true
def okAll {α : Type} (ok : α → Prop) (l : List α) : Prop := l.length ≤ maxLen ∧ ∀ x ∈ l, ok x
def okTwo {α β : Type} (ok : α → Prop) (ok' : β → Prop) (x : α × β) : Prop := ok x.1 ∧ ok' x.2
theorem Op.int {P : Program} {t : TypeId} {k : IntKind} (ht : P.underlying t = some (.int k)) : Op P t (Kd.int k) (okInt k) := by
  intro H enc W fuel cs x h
  obtain ⟨n, rfl, _, hw⟩ := DataW.trod_int ht h
  exact ⟨n, rfl, hw⟩
theorem Op.bool {P : Program} {t : TypeId} (ht : P.underlying t = some .bool) : Op P t Kd.bool (fun _ => True) := by
  intro H enc W fuel cs x h
  obtain ⟨b, rfl, _⟩ := DataW.trod_bool ht h
  exact ⟨b, rfl, trivial⟩
theorem Op.iso {α β : Type} {P : Program} {t : TypeId} {d : Kd α} {ok : α → Prop} (h : Op P t d ok) (f : β → α) (g : α → β) (hfg : ∀ a, f (g a) = a) : Op P t (Kd.iso d f) (fun b => ok (f b)) := by
  intro H enc W fuel cs x hx
  obtain ⟨a, ha, hok⟩ := h H enc W fuel cs x hx
  refine ⟨g a, ?_, ?_⟩
  · show d.K W (f (g a)) cs
    rw [hfg]
    exact ha
  · show ok (f (g a))
    rw [hfg]
    exact hok
theorem list_of_lt {α : Type} {p : Nat → α → Prop} : ∀ n, (∀ i, i < n → ∃ a, p i a) → ∃ l : List α, l.length = n ∧ ∀ i a, l[i]? = some a → p i a
  | 0, _ => ⟨[], rfl, fun i a h => by simp at h⟩
  | n + 1, h => by
    obtain ⟨l, hl, hp⟩ := list_of_lt n (fun i hi => h i (by omega))
    obtain ⟨a, ha⟩ := h n (by omega)
    refine ⟨l ++ [a], by simp [hl], fun i b hb => ?_⟩
    by_cases hi : i < l.length
    · rw [List.getElem?_append_left hi] at hb
      exact hp i b hb
    · have hlt : i < (l ++ [a]).length := (List.getElem?_eq_some_iff.1 hb).1
      simp at hlt
      have : i = l.length := by omega
      subst this
      have hab : a = b := by simpa using hb
      subst hab
      rw [hl]
      exact ha
theorem Op.slice {α : Type} {P : Program} {t e : TypeId} {d : Kd α} {ok : α → Prop} (ht : P.underlying t = some (.slice e)) (hc : P.cellsOf e = d.sz) (h : Op P e d ok) :
    Op P t (Kd.slice e d) (okAll ok) := by
  intro H enc W fuel cs x hx
  rcases Deep.open_slice ht hx with ⟨rfl, _⟩ | ⟨a, len, cap, m, n, D, Pl, rfl, hb, hl, hm, hmm, _, hel⟩
  · exact ⟨[], ⟨none, 0, rfl, Nat.le_refl _, rfl, by simp, fun h => absurd h (by simp)⟩, by simp [okAll]⟩
  · rw [if_pos rfl] at hmm
    subst hmm
    obtain ⟨l, hlen, hl2⟩ := list_of_lt (p := fun i (y : α) => (∃ c, c.length = d.sz ∧ d.K W y c ∧ ∀ j u, c[j]? = some u → W.cell? (a.add (i * d.sz + j)) = some u) ∧ ok y) len (fun i hi => by
      obtain ⟨cs', h1, h2⟩ := hel i (by omega)
      obtain ⟨y, hy, hok⟩ := h H enc W n cs' _ h2
      obtain ⟨_, h3, h4⟩ := World.cells?_some h1
      refine ⟨y, ⟨cs', d.K_len hy, hy, fun j u hu => ?_⟩, hok⟩
      have hj : j < P.cellsOf e := by rw [← h3]; exact (List.getElem?_eq_some_iff.1 hu).1
      have h5 := h4 j hj
      rw [← hu, ← h5, hc, Addr.add_add])
    unfold maxLen at hm
    refine ⟨l, ⟨some a, m, by rw [hlen], by omega, rfl, by omega, fun _ => ⟨a, rfl, fun j p hj => (hl2 j p hj).1⟩⟩, by unfold maxLen; omega, fun y hy => ?_⟩
    obtain ⟨i, hi, rfl⟩ := List.getElem_of_mem hy
    exact (hl2 i _ (List.getElem?_eq_getElem hi)).2
theorem OpF.one {α : Type} {P : Program} {o : Nat} {f : Field} {d : Kd α} {ok : α → Prop} (ho : f.offset = o) (hc : P.cellsOf f.type = d.sz) (h : Op P f.type d ok) : OpF P o [f] d ok := by
  intro H enc W fuel cs xs hl hn hx
  match xs, hn with
  | [y], _ =>
  have hy := hx 0 f rfl
  simp only [List.getElem?_cons_zero] at hy
  rw [ho, hc, List.take_of_length_le (by simp; omega)] at hy
  exact h H enc W fuel _ _ hy
theorem OpF.cons {α β : Type} {P : Program} {o : Nat} {f : Field} {fs : List Field} {d : Kd α} {d' : Kd β} {ok : α → Prop} {ok' : β → Prop} (ho : f.offset = o) (hc : P.cellsOf f.type = d.sz) (h : Op P f.type d ok)
    (hr : OpF P (o + d.sz) fs d' ok') : OpF P o (f :: fs) (Kd.pair d d') (okTwo ok ok') := by
  intro H enc W fuel cs xs hl hn hx
  match xs, hn with
  | y :: ys, hn =>
  have hy := hx 0 f rfl
  have hys : ∀ (i : Nat) (f : Field), fs[i]? = some f → DataW.trod enc P W 0 (fun _ => true) true fuel f.type ((cs.drop f.offset).take (P.cellsOf f.type)) = ys[i]? := fun i g hg => by simpa using hx (i + 1) g (by simpa using hg)
  simp only [List.getElem?_cons_zero] at hy
  rw [ho, hc] at hy
  obtain ⟨a, ha, hok⟩ := h H enc W fuel _ _ hy
  obtain ⟨b, hb, hok'⟩ := hr H enc W fuel cs ys (by rw [hl]; show o + (d.sz + d'.sz) = _; omega) (by simpa using hn) hys
  refine ⟨(a, b), ⟨_, _, ?_, ha, hb⟩, hok, hok'⟩
  rw [← List.drop_drop, List.take_append_drop]
theorem Op.struct {α : Type} {P : Program} {t : TypeId} {fs : Array Field} {d : Kd α} {ok : α → Prop} (ht : P.underlying t = some (.struct fs)) (hc : P.cellsOf t = d.sz) (h : OpF P 0 fs.toList d ok) : Op P t d ok := by
  intro H enc W fuel cs x hx
  obtain ⟨xs, n, _, _, hl, hn, hxs⟩ := DataW.trod_struct ht hx
  obtain ⟨a, ha, hok⟩ := h H enc W n cs xs (by omega) (by simpa using hn) (fun i f hf => hxs i f (by simpa using hf))
  exact ⟨a, by simpa using ha, hok⟩
end Go.Proofs.Ytgcagmmghckbbaa.Opn

/- The plain statement of the law FnLayouts, over numbers and lists alone, and how its arguments are opened. -/
namespace Go.Proofs.Ytgcagmmghckbbaa.A
open Go.RowKit Go.Proofs.YtgcagmmghckbbaaW.PrintWords Go.Proofs.YtgcagmmghckbbaaW.PrintLast Go.Proofs.YtgcagmmghckbbaaW.PrintMore
theorem op5 : Go.Proofs.Ytgcagmmghckbbaa.Opn.Op Try.prog 5 (Kd.int .u8) (Go.Proofs.Ytgcagmmghckbbaa.Opn.okInt .u8) := Go.Proofs.Ytgcagmmghckbbaa.Opn.Op.int Try.underlying5
theorem op44 : Go.Proofs.Ytgcagmmghckbbaa.Opn.Op Try.prog 44 (Kd.slice 5 (Kd.int .u8)) (Go.Proofs.Ytgcagmmghckbbaa.Opn.okAll (Go.Proofs.Ytgcagmmghckbbaa.Opn.okInt .u8)) := Go.Proofs.Ytgcagmmghckbbaa.Opn.Op.slice Try.underlying44 (by kernel_rfl) op5
def FnLayouts.Pure : Prop := ∀ (a0 : List (Int)), (Go.Proofs.Ytgcagmmghckbbaa.Opn.okAll (Go.Proofs.Ytgcagmmghckbbaa.Opn.okInt .u8)) a0 → ∃ k, laws_FnLayouts.f k a0 = some true
end Go.Proofs.Ytgcagmmghckbbaa.A

/- Every layout that the search finds is a correct one of full length. Plain law. -/
namespace Go.Proofs.Ytgcagmmghckbbaa.A
set_option linter.unusedSimpArgs false
set_option linter.unusedVariables false
open Go.RowKit Go.Proofs.YtgcagmmghckbbaaW.PrintWords Go.Proofs.YtgcagmmghckbbaaW.PrintLast Go.Proofs.YtgcagmmghckbbaaW.PrintMore
/-- The tile of a set, turned. -/
def pT (tiles : List Tl) (s : St) : Tl := turnT (tileAt tiles s.f0) s.f1
theorem corr_snoc (tiles : List Tl) (w h : Int) (s : St) : ∀ (l : List St) (pl : List Tl) (seen : List Int),
    corr tiles w h pl seen (l ++ [s]) = (corr tiles w h pl seen l && (inB s.f0 0 ((tiles.length : Int) - 1) && (inB s.f1 0 3 && (!((seen ++ l.map (·.f0)).contains s.f0) && fitsV (pl ++ l.map (pT tiles)) (pT tiles s) w h))))
  | [], pl, seen => by simp [corr, pT]
  | x :: r, pl, seen => by
    rw [List.cons_append, corr, corr_snoc tiles w h s r]
    rw [corr]
    simp only [List.map_cons, List.append_assoc, List.cons_append, List.nil_append, Bool.and_assoc]
    rfl
def Good (tiles : List Tl) (w h : Int) (l : List St) : Prop := corr tiles w h [] [] l = true
def AllGood (tiles : List Tl) (w h : Int) (s : VS) : Prop := ∀ l ∈ s.found, l.length = tiles.length ∧ Good tiles w h l
theorem turnsV_good (tiles : List Tl) (w h most : Int) (visit : List St → List Tl → VS → VS) (layout : List St) (i : Nat) (hi : i < tiles.length) (hu : usedV layout i = false) (hg : Good tiles w h layout)
    (hv : ∀ (x : St) (s : VS), Good tiles w h (layout ++ [x]) → AllGood tiles w h s → AllGood tiles w h (visit (layout ++ [x]) (layout.map (pT tiles) ++ [pT tiles x]) s)) :
    ∀ (m : Nat) (s : VS), m ≤ 4 → AllGood tiles w h s → AllGood tiles w h (turnsV tiles w h most visit layout (layout.map (pT tiles)) i m s)
  | 0, s, _, hs => hs
  | m + 1, s, hm, hs => by
    unfold turnsV
    split
    · exact hs
    · refine turnsV_good tiles w h most visit layout i hi hu hg hv m _ (by omega) ?_
      split
      · rename_i hc
        simp only [Bool.and_eq_true] at hc
        refine hv ⟨i, (4 - (m + 1) : Nat)⟩ s ?_ hs
        unfold Good at *
        rw [corr_snoc, hg]
        simp only [Bool.true_and, List.nil_append, Bool.and_eq_true, inB_iff]
        refine ⟨by omega, by omega, ?_, hc.2⟩
        unfold usedV at hu
        have e : ((layout.map (·.f0)).contains ((i : Nat) : Int)) = layout.any fun x => x.f0 == (i : Int) := by
          clear hg hv hc hu
          induction layout with
          | nil => rfl
          | cons a l ih =>
            rw [List.map_cons, List.contains_cons, ih, List.any_cons]
            congr 1
            exact BEq.comm
        rw [e, hu]
        rfl
      · exact hs
theorem tilesV_good (tiles : List Tl) (w h most : Int) (visit : List St → List Tl → VS → VS) (layout : List St) (hg : Good tiles w h layout)
    (hv : ∀ (x : St) (s : VS), Good tiles w h (layout ++ [x]) → AllGood tiles w h s → AllGood tiles w h (visit (layout ++ [x]) (layout.map (pT tiles) ++ [pT tiles x]) s)) :
    ∀ (m : Nat) (s : VS), m ≤ tiles.length → AllGood tiles w h s → AllGood tiles w h (tilesV tiles w h most visit layout (layout.map (pT tiles)) m s)
  | 0, s, _, hs => hs
  | m + 1, s, hm, hs => by
    unfold tilesV
    refine tilesV_good tiles w h most visit layout hg hv m _ (by omega) ?_
    split
    · exact hs
    · rename_i hu
      exact turnsV_good tiles w h most visit layout _ (by omega) (by simpa using hu) hg hv 4 s (by omega) hs
theorem visitV_good (tiles : List Tl) (w h most : Int) : ∀ (d : Nat) (layout : List St) (s : VS), layout.length + d = tiles.length → Good tiles w h layout → AllGood tiles w h s → AllGood tiles w h (visitV tiles w h most d layout (layout.map (pT tiles)) s)
  | d, layout, s, hl, hg, hs => by
    unfold visitV
    split
    · exact hs
    · cases d with
      | zero =>
        intro l hm
        simp only [List.mem_append, List.mem_singleton] at hm
        rcases hm with hm | rfl
        · exact hs l hm
        · exact ⟨by omega, hg⟩
      | succ d =>
        refine tilesV_good tiles w h most _ layout hg (fun x s hx hs => ?_) _ _ (Nat.le_refl _) hs
        have := visitV_good tiles w h most d (layout ++ [x]) s (by simp; omega) hx hs
        simpa using this
theorem search_good (tiles : List Tl) (w h most : Int) : AllGood tiles w h (visitV tiles w h most tiles.length [] [] ⟨0, [], false⟩) := by
  have := visitV_good tiles w h most tiles.length [] ⟨0, [], false⟩ (by simp) rfl (fun l hl => by simp at hl)
  simpa using this
end Go.Proofs.Ytgcagmmghckbbaa.A






/- Plain laws of what the laws do with lists of sets. -/
namespace Go.Proofs.Ytgcagmmghckbbaa.A
set_option linter.unusedSimpArgs false
set_option linter.unusedVariables false
open Go.RowKit Go.Proofs.YtgcagmmghckbbaaW.PrintWords Go.Proofs.YtgcagmmghckbbaaW.PrintLast Go.Proofs.YtgcagmmghckbbaaW.PrintMore
theorem layV_true {tiles : List Tl} {w h : Int} {l : List St} (hv : layV tiles w h l = true) : codeV tiles w h = 0 ∧ l.length = tiles.length ∧ corr tiles w h [] [] l = true := by
  unfold layV at hv
  simpa using hv
end Go.Proofs.Ytgcagmmghckbbaa.A

/- Correct layouts as a grid of tiles: their edges cancel, and a quarter turn keeps them correct. Plain law. -/
namespace Go.Proofs.Ytgcagmmghckbbaa.A
set_option linter.unusedSimpArgs false
set_option linter.unusedVariables false
open Go.RowKit Go.Proofs.YtgcagmmghckbbaaW.PrintWords Go.Proofs.YtgcagmmghckbbaaW.PrintLast Go.Proofs.YtgcagmmghckbbaaW.PrintMore
theorem rc_eq (w m : Nat) : m = m / w * w + m % w := by have := Nat.div_add_mod m w; rw [Nat.mul_comm] at this; omega
theorem rc_of (w a b : Nat) (hb : b < w) : (a * w + b) % w = b ∧ (a * w + b) / w = a := by
  refine ⟨by rw [Nat.mul_comm, Nat.mul_add_mod, Nat.mod_eq_of_lt hb], ?_⟩
  rw [Nat.mul_comm, Nat.mul_add_div (by omega), Nat.div_eq_of_lt hb, Nat.add_zero]
theorem mod_next (w m : Nat) (hw : 0 < w) : (m + 1) % w = if m % w = w - 1 then 0 else m % w + 1 := by
  have hb := Nat.mod_lt m hw
  have e := rc_eq w m
  obtain ⟨q, hq⟩ : ∃ q, q = m / w := ⟨_, rfl⟩
  obtain ⟨r, hr⟩ : ∃ r, r = m % w := ⟨_, rfl⟩
  rw [← hq, ← hr] at e
  rw [← hr] at hb ⊢
  split
  · rename_i h
    have : m + 1 = (q + 1) * w + 0 := by rw [Nat.add_mul]; omega
    rw [this, (rc_of w (q + 1) 0 hw).1]
  · have : m + 1 = q * w + (r + 1) := by omega
    rw [this, (rc_of w q (r + 1) (by omega)).1]
theorem in_grid (w h m : Nat) (hm : m < w * h) : 0 < w ∧ 0 < h ∧ m % w < w ∧ m / w < h := by
  have hw : 0 < w := by
    rcases Nat.eq_zero_or_pos w with rfl | h0
    · rw [Nat.zero_mul] at hm; omega
    · exact h0
  have hh : 0 < h := by
    rcases Nat.eq_zero_or_pos h with rfl | h0
    · rw [Nat.mul_zero] at hm; omega
    · exact h0
  exact ⟨hw, hh, Nat.mod_lt _ hw, Nat.div_lt_of_lt_mul hm⟩
/-- The tiles of a correct layout, by their places. -/
def Grid (w h : Nat) (g : Nat → Tl) : Prop := ∀ j, j < w * h →
  ((g j).f1 = 0 ↔ j % w = w - 1) ∧ ((g j).f2 = 0 ↔ j / w = h - 1) ∧ (if j % w = 0 then (g j).f3 = 0 else (g j).f3 ≠ 0 ∧ (g j).f3 + (g (j - 1)).f1 = 0) ∧
    (if j / w = 0 then (g j).f0 = 0 else (g j).f0 ≠ 0 ∧ (g j).f0 + (g (j - w)).f2 = 0)
def upTo (F : Nat → Int) : Nat → Int
  | 0 => 0
  | n + 1 => upTo F n + F n
theorem upTo_add (F G : Nat → Int) (n : Nat) : upTo (fun j => F j + G j) n = upTo F n + upTo G n := by
  induction n with
  | zero => rfl
  | succ n ih => simp only [upTo, ih]; omega
theorem upTo_congr {F G : Nat → Int} (n : Nat) (h : ∀ j, j < n → F j = G j) : upTo F n = upTo G n := by
  induction n with
  | zero => rfl
  | succ n ih => simp only [upTo]; rw [ih (fun j hj => h j (by omega)), h n (by omega)]
theorem grid_rows {w h : Nat} {g : Nat → Tl} (hg : Grid w h g) : ∀ m, m ≤ w * h → upTo (fun j => (g j).f1 + (g j).f3) m = if m % w = 0 then 0 else (g (m - 1)).f1
  | 0, _ => by simp [upTo]
  | m + 1, hm => by
    obtain ⟨hw, hh, hc, hr⟩ := in_grid w h m (by omega)
    obtain ⟨g1, _, g3, _⟩ := hg m (by omega)
    have ih := grid_rows hg m (by omega)
    simp only [upTo, ih, Nat.add_sub_cancel]
    rw [mod_next w m hw]
    by_cases c0 : m % w = 0
    · rw [if_pos c0] at g3 ⊢
      by_cases c1 : m % w = w - 1
      · rw [if_pos c1, if_pos rfl, g3, g1.2 c1]; rfl
      · rw [if_neg c1, if_neg (by omega), g3]; omega
    · rw [if_neg c0] at g3 ⊢
      by_cases c1 : m % w = w - 1
      · rw [if_pos c1, if_pos rfl, g1.2 c1]; omega
      · rw [if_neg c1, if_neg (by omega)]; omega
theorem grid_cols {w h : Nat} {g : Nat → Tl} (hg : Grid w h g) (hw : 0 < w) (hh : 0 < h) : upTo (fun j => (g j).f0 + (g j).f2) (w * h) = 0 := by
  rw [upTo_add]
  obtain ⟨n, hn⟩ : ∃ n, w * h = w + n := ⟨w * h - w, by have := Nat.mul_le_mul_left w (show 1 ≤ h from hh); omega⟩
  have first : ∀ m, m ≤ w → upTo (fun j => (g j).f0) m = 0 := by
    intro m
    induction m with
    | zero => intro _; rfl
    | succ m ih =>
      intro hm
      have := (hg m (by omega)).2.2.2
      rw [if_pos (Nat.div_eq_of_lt (by omega))] at this
      simp only [upTo, ih (by omega), this]
      rfl
  have mid : ∀ k, k ≤ n → upTo (fun j => (g j).f0) (w + k) = -upTo (fun j => (g j).f2) k := by
    intro k
    induction k with
    | zero => intro _; rw [Nat.add_zero, first w (Nat.le_refl _)]; rfl
    | succ k ih =>
      intro hk
      have := (hg (w + k) (by omega)).2.2.2
      have hd : (w + k) / w ≠ 0 := by rw [Nat.add_div_left _ hw]; exact Nat.succ_ne_zero _
      rw [if_neg hd, show w + k - w = k from by omega] at this
      show upTo (fun j => (g j).f0) (w + k) + (g (w + k)).f0 = -(upTo (fun j => (g j).f2) k + (g k).f2)
      rw [ih (by omega)]
      omega
  have last : ∀ k, k ≤ w → upTo (fun j => (g j).f2) (n + k) = upTo (fun j => (g j).f2) n := by
    intro k
    induction k with
    | zero => intro _; rfl
    | succ k ih =>
      intro hk
      have h1 := (hg (n + k) (by omega)).2.1
      have hd : (n + k) / w = h - 1 := by
        have e : n + k = (h - 1) * w + k := by rw [Nat.sub_mul, Nat.mul_comm h w]; omega
        rw [e, (rc_of w (h - 1) k (by omega)).2]
      show upTo (fun j => (g j).f2) (n + k) + (g (n + k)).f2 = _
      rw [ih (by omega), h1.2 hd]
      omega
  rw [hn, mid n (Nat.le_refl _), show w + n = n + w from by omega, last w (Nat.le_refl _)]
  omega
def tot4 (t : Tl) : Int := t.f0 + t.f1 + t.f2 + t.f3
theorem grid_sum {w h : Nat} {g : Nat → Tl} (hg : Grid w h g) (hw : 0 < w) (hh : 0 < h) : upTo (fun j => tot4 (g j)) (w * h) = 0 := by
  have e : upTo (fun j => tot4 (g j)) (w * h) = upTo (fun j => ((g j).f0 + (g j).f2) + ((g j).f1 + (g j).f3)) (w * h) := upTo_congr _ fun j _ => by unfold tot4; omega
  rw [e, upTo_add (fun j => (g j).f0 + (g j).f2), grid_cols hg hw hh, grid_rows hg _ (Nat.le_refl _), if_pos (Nat.mul_mod_right w h)]
  rfl
/-- Which place of the old grid comes to place p. -/
def old (w h p : Nat) : Nat := (h - 1 - p % h) * w + p / h
theorem small_len : ∀ (n : Nat) (xs : List Int), xs.Nodup → (∀ x ∈ xs, 0 ≤ x ∧ x < (n : Int)) → xs.length ≤ n
  | 0, xs, _, hb => by
    cases xs with
    | nil => simp
    | cons x xs => have := hb x (by simp); omega
  | n + 1, xs, hd, hb => by
    by_cases c : (n : Int) ∈ xs
    · have h1 := small_len n (xs.erase (n : Int)) (hd.erase _) (fun x hx => by
        have h2 := hb x (List.mem_of_mem_erase hx)
        have h3 : x ≠ (n : Int) := ((List.Nodup.mem_erase_iff hd).1 hx).1
        omega)
      rw [List.length_erase_of_mem c] at h1
      omega
    · have h1 := small_len n xs hd (fun x hx => by
        have h2 := hb x hx
        have h3 : x ≠ (n : Int) := fun e => c (e ▸ hx)
        omega)
      omega
def sumL (F : Int → Int) : List Int → Int
  | [] => 0
  | x :: xs => F x + sumL F xs
theorem sumL_perm (F : Int → Int) {xs ys : List Int} (h : xs.Perm ys) : sumL F xs = sumL F ys := by
  induction h with
  | nil => rfl
  | cons x _ ih => simp only [sumL, ih]
  | swap x y l => simp only [sumL]; omega
  | trans _ _ h1 h2 => rw [h1, h2]
theorem sumL_all (F : Int → Int) : ∀ (n : Nat) (xs : List Int), xs.Nodup → (∀ x ∈ xs, 0 ≤ x ∧ x < (n : Int)) → xs.length = n → sumL F xs = upTo (fun j => F j) n
  | 0, xs, _, _, hl => by rw [List.length_eq_zero_iff.1 hl]; rfl
  | n + 1, xs, hd, hb, hl => by
    have c : (n : Int) ∈ xs := by
      by_cases c : (n : Int) ∈ xs
      · exact c
      · have h1 := small_len n xs hd (fun x hx => by
          have h2 := hb x hx
          have h3 : x ≠ (n : Int) := fun e => c (e ▸ hx)
          omega)
        omega
    have ih := sumL_all F n (xs.erase (n : Int)) (hd.erase _) (fun x hx => by
        have h2 := hb x (List.mem_of_mem_erase hx)
        have h3 : x ≠ (n : Int) := ((List.Nodup.mem_erase_iff hd).1 hx).1
        omega) (by rw [List.length_erase_of_mem c]; omega)
    rw [sumL_perm F (List.perm_cons_erase c)]
    simp only [sumL, upTo, ih]
    omega
end Go.Proofs.Ytgcagmmghckbbaa.A

/- A correct layout is a grid of turned tiles, each used once, and such a grid is a correct layout. Plain law. -/
namespace Go.Proofs.Ytgcagmmghckbbaa.A
set_option linter.unusedSimpArgs false
set_option linter.unusedVariables false
open Go.RowKit Go.Proofs.YtgcagmmghckbbaaW.PrintWords Go.Proofs.YtgcagmmghckbbaaW.PrintLast Go.Proofs.YtgcagmmghckbbaaW.PrintMore
theorem corr_iff (tiles : List Tl) (w h : Int) : ∀ (l : List St) (pl : List Tl) (seen : List Int), corr tiles w h pl seen l = true ↔
    ∀ j (hj : j < l.length), (0 ≤ l[j].f0 ∧ l[j].f0 ≤ (tiles.length : Int) - 1) ∧ (0 ≤ l[j].f1 ∧ l[j].f1 ≤ 3) ∧ (seen ++ (l.take j).map (·.f0)).contains l[j].f0 = false ∧ fitsV (pl ++ (l.take j).map (pT tiles)) (pT tiles l[j]) w h = true
  | [], pl, seen => by simp [corr]
  | x :: r, pl, seen => by
    have ih := corr_iff tiles w h r (pl ++ [pT tiles x]) (seen ++ [x.f0])
    rw [corr]
    simp only [Bool.and_eq_true, inB_iff]
    constructor
    · rintro ⟨h1, h2, h3, h4, h5⟩ j hj
      cases j with
      | zero => exact ⟨h1, h2, by simpa using h3, by simpa [pT] using h4⟩
      | succ j =>
        have := (ih.1 h5) j (by simpa using hj)
        simpa [List.append_assoc] using this
    · intro hall
      have h0 := hall 0 (by simp)
      refine ⟨h0.1, h0.2.1, by simpa using h0.2.2.1, by simpa [pT] using h0.2.2.2, ih.2 fun j hj => ?_⟩
      have := hall (j + 1) (by simpa using hj)
      simpa [List.append_assoc] using this
theorem matchS_iff (x y : Int) (hx : okE x = true) (hy : okE y = true) : matchS x y = true ↔ x ≠ 0 ∧ x + y = 0 := by
  rw [okE_iff] at hx hy
  unfold matchS
  rw [show wrap64 (x + y) = x + y from by unfold wrap64; omega]
  by_cases c : x = 0
  · simp [c]
  · rw [if_neg c]; simp [c]
theorem okT_parts {t : Tl} (h : okT t = true) : okE t.f0 = true ∧ okE t.f1 = true ∧ okE t.f2 = true ∧ okE t.f3 = true := by
  unfold okT at h
  simpa using h
theorem sideV_iff (z : Nat) (x y : Int) (hx : okE x = true) (hy : z ≠ 0 → okE y = true) : sideV matchS (z : Int) x y = true ↔ if z = 0 then x = 0 else x ≠ 0 ∧ x + y = 0 := by
  unfold sideV
  by_cases c : z = 0
  · subst c; simp
  · rw [if_neg (by omega), if_neg c, matchS_iff x y hx (hy c)]
theorem beq_ne (a b : Bool) : (a != b) = false ↔ (a = true ↔ b = true) := by cases a <;> cases b <;> simp
theorem fitsV_iff (pl : List Tl) (t : Tl) (w h : Nat) (hw : 0 < w) (hh : 0 < h) (ht : okT t = true) (a b : Tl) (ha : pl.length % w ≠ 0 → lastT pl ((pl.length : Int) - 1) = a ∧ okT a = true) (hb : pl.length / w ≠ 0 → lastT pl ((pl.length : Int) - (w : Int)) = b ∧ okT b = true) :
    fitsV pl t (w : Int) (h : Int) = true ↔ (t.f1 = 0 ↔ pl.length % w = w - 1) ∧ (t.f2 = 0 ↔ pl.length / w = h - 1) ∧ (if pl.length % w = 0 then t.f3 = 0 else t.f3 ≠ 0 ∧ t.f3 + a.f1 = 0) ∧ (if pl.length / w = 0 then t.f0 = 0 else t.f0 ≠ 0 ∧ t.f0 + b.f2 = 0) := by
  obtain ⟨k0, k1, k2, k3⟩ := okT_parts ht
  have em : ((pl.length : Int) % (w : Int)) = ((pl.length % w : Nat) : Int) := by simp
  have ed : ((pl.length : Int) / (w : Int)) = ((pl.length / w : Nat) : Int) := by simp
  unfold fitsV
  rw [em, ed]
  simp only [Bool.and_eq_true, Bool.not_eq_true', Bool.or_eq_false_iff, beq_ne, beq_iff_eq]
  have s1 : sideV matchS ((pl.length % w : Nat) : Int) t.f3 (lastT pl ((pl.length : Int) - 1)).f1 = true ↔ (if pl.length % w = 0 then t.f3 = 0 else t.f3 ≠ 0 ∧ t.f3 + a.f1 = 0) := by
    rw [sideV_iff _ _ _ k3 (fun c => by rw [(ha c).1]; exact (okT_parts (ha c).2).2.1)]
    by_cases c : pl.length % w = 0
    · rw [if_pos c, if_pos c]
    · rw [if_neg c, if_neg c, (ha c).1]
  have s2 : sideV matchS ((pl.length / w : Nat) : Int) t.f0 (lastT pl ((pl.length : Int) - (w : Int))).f2 = true ↔ (if pl.length / w = 0 then t.f0 = 0 else t.f0 ≠ 0 ∧ t.f0 + b.f2 = 0) := by
    rw [sideV_iff _ _ _ k0 (fun c => by rw [(hb c).1]; exact (okT_parts (hb c).2).2.2.1)]
    by_cases c : pl.length / w = 0
    · rw [if_pos c, if_pos c]
    · rw [if_neg c, if_neg c, (hb c).1]
  rw [s1, s2, and_assoc]
  have e1 : ((pl.length % w : Nat) : Int) = (w : Int) - 1 ↔ pl.length % w = w - 1 := by omega
  have e2 : ((pl.length / w : Nat) : Int) = (h : Int) - 1 ↔ pl.length / w = h - 1 := by
    obtain ⟨z, hz⟩ : ∃ z, z = pl.length / w := ⟨_, rfl⟩
    rw [← hz]
    omega
  rw [e1, e2]
/-- The tiles of a layout by their places. -/
def gOf (tiles : List Tl) (l : List St) (j : Nat) : Tl := pT tiles (setAt l (j : Int))
theorem setAt_get (l : List St) (j : Nat) (h : j < l.length) : setAt l (j : Int) = l[j] := setAt_nat l j h
theorem lastT_take (tiles : List Tl) (l : List St) (j i : Nat) (hi : i < j) (hj : j ≤ l.length) : lastT ((l.take j).map (pT tiles)) (i : Int) = gOf tiles l i := by
  unfold lastT gOf rd_T24
  rw [setAt_get l i (by omega), getD_nat _ _ _ (by simp; omega)]
  simp
structure Uses (tiles : List Tl) (l : List St) : Prop where
  tile : ∀ j (hj : j < l.length), 0 ≤ l[j].f0 ∧ l[j].f0 ≤ (tiles.length : Int) - 1
  turn : ∀ j (hj : j < l.length), 0 ≤ l[j].f1 ∧ l[j].f1 ≤ 3
  once : ∀ i j (hi : i < l.length) (hj : j < l.length), i < j → l[i].f0 ≠ l[j].f0
theorem gOf_ok {tiles : List Tl} {l : List St} (ho : tiles.all okT = true) (hu : Uses tiles l) (j : Nat) (hj : j < l.length) : okT (gOf tiles l j) = true := by
  unfold gOf pT
  rw [setAt_get l j hj]
  exact turnT_ok _ _ (tileAt_ok tiles _ ho (hu.tile j hj).1 (by have := (hu.tile j hj).2; omega))
theorem fitsAt_iff {tiles : List Tl} {l : List St} {w h : Nat} (hw : 0 < w) (hh : 0 < h) (ho : tiles.all okT = true) (hu : Uses tiles l) (j : Nat) (hj : j < l.length) :
    fitsV ((l.take j).map (pT tiles)) (pT tiles l[j]) (w : Int) (h : Int) = true ↔ ((gOf tiles l j).f1 = 0 ↔ j % w = w - 1) ∧ ((gOf tiles l j).f2 = 0 ↔ j / w = h - 1) ∧ (if j % w = 0 then (gOf tiles l j).f3 = 0 else (gOf tiles l j).f3 ≠ 0 ∧ (gOf tiles l j).f3 + (gOf tiles l (j - 1)).f1 = 0) ∧
      (if j / w = 0 then (gOf tiles l j).f0 = 0 else (gOf tiles l j).f0 ≠ 0 ∧ (gOf tiles l j).f0 + (gOf tiles l (j - w)).f2 = 0) := by
  have hlen : ((l.take j).map (pT tiles)).length = j := by simp; omega
  have e : pT tiles l[j] = gOf tiles l j := by unfold gOf; rw [setAt_get l j hj]
  have key := fitsV_iff ((l.take j).map (pT tiles)) (gOf tiles l j) w h hw hh (gOf_ok ho hu j hj) (gOf tiles l (j - 1)) (gOf tiles l (j - w))
  rw [hlen] at key
  rw [e]
  refine key (fun c => ?_) (fun c => ?_)
  · have : 0 < j := by
      rcases Nat.eq_zero_or_pos j with rfl | h0
      · simp at c
      · exact h0
    refine ⟨?_, gOf_ok ho hu _ (by omega)⟩
    rw [show (j : Int) - 1 = ((j - 1 : Nat) : Int) from by omega]
    exact lastT_take tiles l j (j - 1) (by omega) (by omega)
  · have : w ≤ j := by
      rcases Nat.lt_or_ge j w with h0 | h0
      · rw [Nat.div_eq_of_lt h0] at c; exact absurd rfl c
      · exact h0
    refine ⟨?_, gOf_ok ho hu _ (by omega)⟩
    rw [show (j : Int) - (w : Int) = ((j - w : Nat) : Int) from by omega]
    exact lastT_take tiles l j (j - w) (by omega) (by omega)
theorem once_iff (l : List St) (j : Nat) (hj : j < l.length) : ((l.take j).map (·.f0)).contains l[j].f0 = false ↔ ∀ i (hi : i < j), (l[i]'(by omega)).f0 ≠ l[j].f0 := by
  rw [Bool.eq_false_iff]
  simp only [ne_eq, List.contains_iff_mem, List.mem_map, List.mem_take_iff_getElem, not_exists, not_and]
  constructor
  · intro h i hi e
    exact h l[i] ⟨i, by omega, rfl⟩ e
  · rintro h x ⟨i, hi, rfl⟩ e
    exact h i (by omega) e
theorem corr_grid {tiles : List Tl} {l : List St} {w h : Nat} (hw : 0 < w) (hh : 0 < h) (ho : tiles.all okT = true) (hl : l.length = w * h) :
    corr tiles (w : Int) (h : Int) [] [] l = true ↔ Uses tiles l ∧ Grid w h (gOf tiles l) := by
  rw [corr_iff]
  simp only [List.nil_append]
  constructor
  · intro hall
    have hu : Uses tiles l := ⟨fun j hj => (hall j hj).1, fun j hj => (hall j hj).2.1, fun i j hi hj hij => (once_iff l j hj).1 (hall j hj).2.2.1 i hij⟩
    exact ⟨hu, fun j hj => (fitsAt_iff hw hh ho hu j (by omega)).1 (hall j (by omega)).2.2.2⟩
  · rintro ⟨hu, hg⟩ j hj
    exact ⟨hu.tile j hj, hu.turn j hj, (once_iff l j hj).2 fun i hi => hu.once i j (by omega) hj hi, (fitsAt_iff hw hh ho hu j hj).2 (hg j (by omega))⟩
theorem tot4_turn (t : Tl) (n : Int) : tot4 (turnT t n) = tot4 t := by
  unfold turnT tot4
  repeat' split
  all_goals (try dsimp only)
  all_goals omega
theorem uses_sum {tiles : List Tl} {l : List St} (hu : Uses tiles l) (hl : l.length = tiles.length) : upTo (fun j => tot4 (gOf tiles l j)) tiles.length = upTo (fun j => tot4 (tileAt tiles (j : Int))) tiles.length := by
  have hs : ∀ (l : List St), sumL (fun i => tot4 (tileAt tiles i)) (l.map (·.f0)) = upTo (fun j => tot4 (gOf tiles l j)) l.length := by
    intro l
    have key : ∀ n, n ≤ l.length → sumL (fun i => tot4 (tileAt tiles i)) ((l.take n).map (·.f0)) = upTo (fun j => tot4 (gOf tiles l j)) n := by
      intro n
      induction n with
      | zero => intro _; rfl
      | succ n ih =>
        intro hn
        have app : ∀ (xs : List Int) (x : Int), sumL (fun i => tot4 (tileAt tiles i)) (xs ++ [x]) = sumL (fun i => tot4 (tileAt tiles i)) xs + tot4 (tileAt tiles x) := by
          intro xs x
          induction xs with
          | nil => simp [sumL]
          | cons a xs ih => simp only [List.cons_append, sumL, ih]; omega
        rw [List.take_succ_eq_append_getElem (show n < l.length by omega), List.map_append, List.map_singleton, app, ih (by omega)]
        simp only [upTo]
        congr 1
        unfold gOf pT
        rw [tot4_turn, setAt_get l n (by omega)]
    have := key l.length (Nat.le_refl _)
    rwa [List.take_length] at this
  rw [← hl, ← hs l, hl]
  refine sumL_all _ tiles.length _ ?_ ?_ (by simpa using hl)
  · rw [List.Nodup, List.pairwise_iff_getElem]
    intro i j hi hj hij
    simp only [List.length_map] at hi hj
    simpa using hu.once i j hi hj hij
  · intro x hx
    rw [List.mem_map] at hx
    obtain ⟨s, hs, rfl⟩ := hx
    obtain ⟨j, hj, rfl⟩ := List.getElem_of_mem hs
    have := hu.tile j hj
    omega
/-- The edges of the tiles of a jigsaw that has a correct layout cancel. -/
theorem lay_zero {tiles : List Tl} {l : List St} {w h : Nat} (hw : 0 < w) (hh : 0 < h) (ho : tiles.all okT = true) (hl : l.length = tiles.length) (hn : tiles.length = w * h) (hc : corr tiles (w : Int) (h : Int) [] [] l = true) :
    upTo (fun j => tot4 (tileAt tiles (j : Int))) tiles.length = 0 := by
  obtain ⟨hu, hg⟩ := (corr_grid hw hh ho (hl.trans hn)).1 hc
  rw [← uses_sum hu hl, hn]
  exact grid_sum hg hw hh
end Go.Proofs.Ytgcagmmghckbbaa.A

/- The sum of all edges of tiles, plain. -/
namespace Go.Proofs.Ytgcagmmghckbbaa.A
set_option linter.unusedSimpArgs false
set_option linter.unusedVariables false
open Go.RowKit Go.Proofs.YtgcagmmghckbbaaW.PrintWords Go.Proofs.YtgcagmmghckbbaaW.PrintLast Go.Proofs.YtgcagmmghckbbaaW.PrintMore
def totT : List Tl → Int
  | [] => 0
  | t :: l => t.f0 + t.f1 + t.f2 + t.f3 + totT l
theorem okT_b' {t : Tl} (h : okT t = true) : (-9 ≤ t.f0 ∧ t.f0 ≤ 9) ∧ (-9 ≤ t.f1 ∧ t.f1 ≤ 9) ∧ (-9 ≤ t.f2 ∧ t.f2 ≤ 9) ∧ (-9 ≤ t.f3 ∧ t.f3 ≤ 9) := by
  unfold okT okE at h
  simp only [Bool.and_eq_true, inB_iff] at h
  exact h
theorem edges_totT (l : List Tl) (s : Int) (h : l.all okT = true) (hs : -1000 ≤ s - 36 * l.length ∧ s + 36 * l.length ≤ 1000) : edges s l = s + totT l ∧ -(36 * (l.length : Int)) ≤ totT l ∧ totT l ≤ 36 * l.length := by
  induction l generalizing s with
  | nil => simp [edges, totT]
  | cons t l ih =>
    simp only [List.all_cons, Bool.and_eq_true] at h
    have b := okT_b' h.1
    simp only [List.length_cons] at hs ⊢
    have e : wrap64 (s + t.f0 + t.f1 + t.f2 + t.f3) = s + (t.f0 + t.f1 + t.f2 + t.f3) := by unfold wrap64; omega
    obtain ⟨i1, i2, i3⟩ := ih (s + (t.f0 + t.f1 + t.f2 + t.f3)) h.2 (by omega)
    refine ⟨?_, by simp only [totT]; omega, by simp only [totT]; omega⟩
    show edges (wrap64 (s + t.f0 + t.f1 + t.f2 + t.f3)) l = _
    rw [e, i1]
    simp only [totT]
    omega
theorem totT_snoc (l : List Tl) (t : Tl) : totT (l ++ [t]) = totT l + tot4 t := by
  induction l with
  | nil => simp [totT, tot4]
  | cons a l ih => simp only [List.cons_append, totT, ih]; omega
theorem totT_upTo (l : List Tl) : totT l = upTo (fun j => tot4 (tileAt l (j : Int))) l.length := by
  have key : ∀ n, n ≤ l.length → totT (l.take n) = upTo (fun j => tot4 (tileAt l (j : Int))) n := by
    intro n
    induction n with
    | zero => intro _; rfl
    | succ n ih =>
      intro hn
      rw [List.take_succ_eq_append_getElem (show n < l.length by omega), totT_snoc, ih (by omega)]
      simp only [upTo]
      congr 1
      unfold tileAt rd_T24
      rw [getD_nat l _ n (by omega)]
  have := key l.length (Nat.le_refl _)
  rwa [List.take_length] at this
/-- The sum of the edges of a jigsaw that has a correct layout is 0. -/
theorem lay_edges {tiles : List Tl} {l : List St} {w h : Int} (hv : layV tiles w h l = true) : edgeOut tiles = (0, 0) := by
  unfold layV at hv
  simp only [Bool.and_eq_true, decide_eq_true_eq] at hv
  obtain ⟨hc, hl, hg⟩ := hv
  obtain ⟨ho, hw1, hw6, hh1, hh6, hwh, hn⟩ := codeV_zero hc
  obtain ⟨a, rfl⟩ := Int.eq_ofNat_of_zero_le (show 0 ≤ w by omega)
  obtain ⟨b, rfl⟩ := Int.eq_ofNat_of_zero_le (show 0 ≤ h by omega)
  have hn' : tiles.length = a * b := by rw [← Int.natCast_mul] at hwh; omega
  have h0 := lay_zero (by omega) (by omega) ho hl hn' hg
  rw [← totT_upTo] at h0
  have ht : tilesC tiles = 0 := by unfold tilesC; rw [if_pos ho, if_neg (by omega)]
  unfold edgeOut
  rw [if_pos ht, (edges_totT tiles 0 ho (by omega)).1, h0]
  rfl
theorem likeSets_ev (l : List St) (h : l.length ≤ 1048576) : Ev (fun k => laws_likeSets.f k l l) true := by
  unfold laws_likeSets.f
  simp only [if_true]
  refine ev_at l.length (fun (_ : Unit) _ => True) true (fun _ i k => laws_likeSets.l0 k l l i) (fun s hi => ?_) (fun s j hj hi => ?_) () trivial
  · exact Ev.step (f := fun _ => some true) (fun k => by simp only [laws_likeSets.l0]; rw [if_neg (by omega)]) (Ev.now _)
  · refine ⟨(), trivial, fun h2 => Ev.step (fun k => ?_) h2⟩
    simp only [laws_likeSets.l0]
    rw [if_pos (by omega), if_pos (by omega), if_pos (by omega), if_neg (by simp), wrap_succ j (by omega)]
end Go.Proofs.Ytgcagmmghckbbaa.A

/- The search for one layout and the search for many go the same way until the first is found. Plain law. -/
namespace Go.Proofs.Ytgcagmmghckbbaa.A
set_option linter.unusedSimpArgs false
set_option linter.unusedVariables false
open Go.RowKit Go.Proofs.YtgcagmmghckbbaaW.PrintWords Go.Proofs.YtgcagmmghckbbaaW.PrintLast Go.Proofs.YtgcagmmghckbbaaW.PrintMore
section
variable (tiles : List Tl) (w h most : Int)
theorem turnsV_ne (visit : List St → List Tl → VS → VS) (hv : ∀ l p s, s.found ≠ [] → (visit l p s).found ≠ []) (layout : List St) (placed : List Tl) (i : Nat) :
    ∀ (m : Nat) (s : VS), s.found ≠ [] → (turnsV tiles w h most visit layout placed i m s).found ≠ []
  | 0, s, hs => hs
  | m + 1, s, hs => by
    unfold turnsV
    split
    · exact hs
    · refine turnsV_ne visit hv layout placed i m _ ?_
      split
      · exact hv _ _ _ hs
      · exact hs
theorem tilesV_ne (visit : List St → List Tl → VS → VS) (hv : ∀ l p s, s.found ≠ [] → (visit l p s).found ≠ []) (layout : List St) (placed : List Tl) :
    ∀ (m : Nat) (s : VS), s.found ≠ [] → (tilesV tiles w h most visit layout placed m s).found ≠ []
  | 0, s, hs => hs
  | m + 1, s, hs => by
    unfold tilesV
    refine tilesV_ne visit hv layout placed m _ ?_
    split
    · exact hs
    · exact turnsV_ne tiles w h most visit hv layout placed _ 4 s hs
theorem visitV_ne : ∀ (d : Nat) (layout : List St) (placed : List Tl) (s : VS), s.found ≠ [] → (visitV tiles w h most d layout placed s).found ≠ []
  | d, layout, placed, s, hs => by
    unfold visitV
    split
    · exact hs
    · cases d with
      | zero => simp
      | succ d => exact tilesV_ne tiles w h most _ (fun l p s hs => visitV_ne d l p s hs) layout placed _ _ hs
/-- The same so far, or both have found something. -/
def Rel1 (s t : VS) : Prop := (s = t ∧ s.found = []) ∨ (s.found ≠ [] ∧ t.found ≠ [])
theorem turnsV_rel (hm : 1 ≤ most) (v1 vM : List St → List Tl → VS → VS) (hv : ∀ l p s, s.found = [] → Rel1 (v1 l p s) (vM l p s)) (hn : ∀ l p s, s.found ≠ [] → (vM l p s).found ≠ []) (layout : List St) (placed : List Tl) (i : Nat) :
    ∀ (m : Nat) (s t : VS), Rel1 s t → Rel1 (turnsV tiles w h 1 v1 layout placed i m s) (turnsV tiles w h most vM layout placed i m t)
  | 0, s, t, hr => hr
  | m + 1, s, t, hr => by
    rcases hr with ⟨rfl, he⟩ | ⟨h1, h2⟩
    · have e : stopV 1 s = stopV most s := by
        unfold stopV
        rw [he]
        have e1 : decide (((([] : List (List St)).length : Nat) : Int) < 1) = true := by decide
        have e2 : decide (((([] : List (List St)).length : Nat) : Int) < most) = true := decide_eq_true (by simp; omega)
        rw [e1, e2]
      unfold turnsV
      rw [e]
      split
      · exact .inl ⟨rfl, he⟩
      · refine turnsV_rel hm v1 vM hv hn layout placed i m _ _ ?_
        split
        · exact hv _ _ _ he
        · exact .inl ⟨rfl, he⟩
    · have : stopV 1 s = true := by
        unfold stopV
        cases hf : s.found with
        | nil => exact absurd hf h1
        | cons x xs =>
          have : decide ((((x :: xs).length : Nat) : Int) < 1) = false := decide_eq_false (by simp; omega)
          rw [this]
          simp
      rw [turnsV_stop _ _ _ _ _ _ _ _ _ _ this]
      exact .inr ⟨h1, turnsV_ne tiles w h most vM hn layout placed i _ t h2⟩
theorem tilesV_rel (hm : 1 ≤ most) (v1 vM : List St → List Tl → VS → VS) (hv : ∀ l p s, s.found = [] → Rel1 (v1 l p s) (vM l p s)) (hn : ∀ l p s, s.found ≠ [] → (vM l p s).found ≠ []) (layout : List St) (placed : List Tl) :
    ∀ (m : Nat) (s t : VS), Rel1 s t → Rel1 (tilesV tiles w h 1 v1 layout placed m s) (tilesV tiles w h most vM layout placed m t)
  | 0, s, t, hr => hr
  | m + 1, s, t, hr => by
    unfold tilesV
    refine tilesV_rel hm v1 vM hv hn layout placed m _ _ ?_
    split
    · exact hr
    · exact turnsV_rel tiles w h most hm v1 vM hv hn layout placed _ 4 s t hr
theorem visitV_rel (hm : 1 ≤ most) : ∀ (d : Nat) (layout : List St) (placed : List Tl) (s : VS), s.found = [] → Rel1 (visitV tiles w h 1 d layout placed s) (visitV tiles w h most d layout placed s)
  | d, layout, placed, s, hs => by
    unfold visitV
    split
    · exact .inl ⟨rfl, hs⟩
    · cases d with
      | zero => exact .inr ⟨by simp, by simp⟩
      | succ d => exact tilesV_rel tiles w h most hm _ _ (fun l p s hs => visitV_rel hm d l p s hs) (fun l p s hs => visitV_ne tiles w h most d l p s hs) layout placed _ _ _ (.inl ⟨rfl, hs⟩)
end
/-- None is found exactly if their number is 0, where the number is told. -/
theorem none_zero (tiles : List Tl) (w h : Int) (hc : (cntOut tiles w h).2 = 0) : (cntOut tiles w h).1 = 0 ↔ (solOut tiles w h).2 = 4 := by
  unfold cntOut at hc ⊢
  by_cases c : codeV tiles w h = 0
  · rw [if_pos c] at hc ⊢
    by_cases o : (searchV tiles w h 5001).over = true
    · rw [if_pos o] at hc; exact absurd hc (by decide)
    · rw [if_neg o]
      unfold solOut outS
      rw [if_pos c]
      rcases visitV_rel tiles w h 5001 (by decide) tiles.length [] [] ⟨0, [], false⟩ rfl with ⟨h1, h2⟩ | ⟨h1, h2⟩
      · have e : searchV tiles w h 1 = searchV tiles w h 5001 := h1
        have e2 : (searchV tiles w h 1).found = [] := h2
        rw [← e, e2]
        rw [← e] at o
        simp [o]
      · have e1 : (searchV tiles w h 1).found ≠ [] := h1
        have e2 : (searchV tiles w h 5001).found ≠ [] := h2
        cases hf : (searchV tiles w h 1).found with
        | nil => exact absurd hf e1
        | cons x xs =>
          cases hg : (searchV tiles w h 5001).found with
          | nil => exact absurd hg e2
          | cons y ys =>
            simp
            omega
  · rw [if_neg c] at hc
    exact absurd hc c
end Go.Proofs.Ytgcagmmghckbbaa.A

/- The reference's source of drawn numbers: what it hands out is in its range, and it stays sound. Plain law, for every draw. -/
namespace Go.Proofs.Ytgcagmmghckbbaa.A
set_option linter.unusedSimpArgs false
set_option linter.unusedVariables false
open Go.RowKit Go.Proofs.YtgcagmmghckbbaaW.PrintWords Go.Proofs.YtgcagmmghckbbaaW.PrintLast Go.Proofs.YtgcagmmghckbbaaW.PrintMore
def CodeOk (c : List Int) : Prop := c.length ≤ 140737488351232 ∧ ∀ x ∈ c, 0 ≤ x ∧ x ≤ 255
def SrcOk (c : List Int) (p s : Int) : Prop := 0 ≤ p ∧ p ≤ c.length ∧ 0 ≤ s ∧ s < 2147483647
theorem codeOk_of {l : List Int} (h : l.length * 1 ≤ 140737488351232) (hw : ∀ x ∈ l, (Lit.int .u8 x).wf = true) : CodeOk l := by
  refine ⟨by omega, fun x hx => ?_⟩
  have := hw x hx
  simp [Lit.wf, IntKind.min, IntKind.max, IntKind.bits, IntKind.signed] at this
  omega
theorem rd_ok {c : List Int} (h : CodeOk c) {j : Int} (h0 : 0 ≤ j) (h1 : j < c.length) : 0 ≤ rd c j ∧ rd c j ≤ 255 := by
  obtain ⟨m, rfl⟩ := Int.eq_ofNat_of_zero_le h0
  have hm : m < c.length := by omega
  rw [rd_nat c m hm]
  exact h.2 _ (List.getElem_mem hm)
theorem tmod_range {x n : Int} (hx : 0 ≤ x) (hn : 0 < n) : 0 ≤ Int.tmod x n ∧ Int.tmod x n < n := by
  rw [Int.tmod_eq_emod_of_nonneg hx]
  exact ⟨Int.emod_nonneg _ (by omega), Int.emod_lt_of_pos _ hn⟩
theorem tdiv31 {x : Int} (hx : 0 ≤ x) : 0 ≤ Int.tdiv x 31 ∧ Int.tdiv x 31 ≤ x := by
  rw [Int.tdiv_eq_ediv_of_nonneg hx]
  omega
theorem next_ok {c : List Int} (hc : CodeOk c) {p s : Int} (h : SrcOk c p s) (n : Int) :
    ∃ r p' s', spec_l01Next.f c p s n = some (r, p', s') ∧ 0 ≤ r ∧ (n ≤ 1 → r = 0) ∧ (1 < n → r < n) ∧ SrcOk c p' s' := by
  obtain ⟨h0, h1, h2, h3⟩ := h
  have hl := hc.1
  unfold spec_l01Next.f
  by_cases d : n ≤ 1
  · rw [if_pos d]
    exact ⟨_, _, _, rfl, Int.le_refl _, fun _ => rfl, fun h => absurd h (by omega), h0, h1, h2, h3⟩
  · rw [if_neg d]
    have e1 : wrap64 (wrap64 (s * 48271) + 29) = s * 48271 + 29 := by unfold wrap64; omega
    rw [e1]
    obtain ⟨s', hs⟩ : ∃ s', s' = Int.tmod (s * 48271 + 29) 2147483647 := ⟨_, rfl⟩
    have hsr := tmod_range (x := s * 48271 + 29) (n := 2147483647) (by omega) (by omega)
    rw [← hs] at hsr ⊢
    have ht := tdiv31 hsr.1
    have hn0 : ¬ n = 0 := by omega
    by_cases q : p < c.length
    · rw [if_pos q, if_pos h0]
      have ep : wrap64 (p + 1) = p + 1 := by unfold wrap64; omega
      have ep2 : wrap64 (p + 1 - 1) = p := by unfold wrap64; omega
      have hr := rd_ok hc h0 q
      have er : wrap64 (rd c p) = rd c p := by unfold wrap64; omega
      have ed : wrap64 (Int.tdiv s' 31) = Int.tdiv s' 31 := by unfold wrap64; omega
      have es : wrap64 (Int.tdiv s' 31 + rd c p) = Int.tdiv s' 31 + rd c p := by unfold wrap64; omega
      have hS : SrcOk c (p + 1) s' := ⟨by omega, by omega, hsr.1, hsr.2⟩
      have A := tmod_range (x := rd c p) (n := n) hr.1 (by omega)
      have B := tmod_range (x := Int.tdiv s' 31 + rd c p) (n := n) (by omega) (by omega)
      by_cases d2 : n ≤ 256
      · rw [if_pos d2]
        rw [ep, ep2]
        by_cases d3 : Int.tmod (p + 1) 2 = 0
        · simp only [if_pos d3, if_pos h0, if_pos q, if_neg hn0, er]
          exact ⟨_, _, _, rfl, A.1, fun h => absurd h d, fun _ => A.2, hS⟩
        · simp only [if_neg d3, if_neg hn0, er, ed, es]
          exact ⟨_, _, _, rfl, B.1, fun h => absurd h d, fun _ => B.2, hS⟩
      · simp only [if_neg d2, ep, if_neg hn0, er, ed, es]
        exact ⟨_, _, _, rfl, B.1, fun h => absurd h d, fun _ => B.2, hS⟩
    · rw [if_neg q, if_neg hn0]
      have ed : wrap64 (Int.tdiv s' 31) = Int.tdiv s' 31 := by unfold wrap64; omega
      rw [ed]
      have A := tmod_range (x := Int.tdiv s' 31) (n := n) ht.1 (by omega)
      exact ⟨_, _, _, rfl, A.1, fun h => absurd h d, fun _ => A.2, h0, h1, hsr.1, hsr.2⟩
theorem from_ok {c : List Int} (hc : CodeOk c) : ∃ p s, SrcOk c p s ∧ Ev (fun k => spec_l01From.f k c) (c, p, s) := by
  have hl := hc.1
  unfold spec_l01From.f
  have key : ∃ r, (∃ p s, SrcOk c p s ∧ r = (c, p, s)) ∧ Ev (fun k => spec_l01From.l0 k c 0 c 0 61003) r := by
    refine ev_inv0 (min c.length 64) (fun (s : Int) _ => 0 ≤ s ∧ s < 2147483647) (fun r => ∃ p s, SrcOk c p s ∧ r = (c, p, s)) (fun s i k => spec_l01From.l0 k c i c 0 s) (fun s hi => ?_) (fun s j hj hi => .inr ?_) 61003 ⟨by omega, by omega⟩
    · refine ⟨(c, 0, s), ⟨0, s, ⟨Int.le_refl _, by omega, hi.1, hi.2⟩, rfl⟩, Ev.step (f := fun _ => some (c, 0, s)) (fun k => ?_) (Ev.now _)⟩
      simp only [spec_l01From.l0]
      by_cases q : ((min c.length 64 : Nat) : Int) < (c.length : Int)
      · rw [if_pos q, if_neg (by omega)]
      · rw [if_neg q]
    · have hjl : j < c.length := by omega
      have hr := rd_ok hc (j := (j : Int)) (by omega) (by omega)
      have er : wrap64 (rd c (j : Int)) = rd c (j : Int) := by unfold wrap64; omega
      have e : wrap64 (wrap64 (s * 47) + rd c (j : Int)) = s * 47 + rd c (j : Int) := by have := hi.1; have := hi.2; unfold wrap64; omega
      have hs := tmod_range (x := s * 47 + rd c (j : Int)) (n := 2147483647) (by have := hi.1; omega) (by omega)
      refine ⟨Int.tmod (s * 47 + rd c (j : Int)) 2147483647, hs, fun r h2 => Ev.step (fun k => ?_) h2⟩
      simp only [spec_l01From.l0]
      rw [if_pos (by omega), if_pos (by omega), if_pos (by omega), wrap_succ j (by omega), er, e]
  obtain ⟨r, ⟨p, s, h, rfl⟩, hr⟩ := key
  exact ⟨p, s, h, hr⟩
end Go.Proofs.Ytgcagmmghckbbaa.A

/- The draw of a jigsaw: it ends, in at most twelve tiles, a width and a height in range. Plain law. -/
namespace Go.Proofs.Ytgcagmmghckbbaa.A
set_option linter.unusedSimpArgs false
set_option linter.unusedVariables false
open Go.RowKit Go.Proofs.YtgcagmmghckbbaaW.PrintWords Go.Proofs.YtgcagmmghckbbaaW.PrintLast Go.Proofs.YtgcagmmghckbbaaW.PrintMore
/-- What a draw comes to. -/
def DrawOk (c : List Int) (r : List Tl × Int × Int × Int × Int) : Prop := r.1.length ≤ 12 ∧ 1 ≤ r.2.1 ∧ r.2.1 ≤ 5 ∧ 1 ≤ r.2.2.1 ∧ r.2.2.1 ≤ 4 ∧ SrcOk c r.2.2.2.1 r.2.2.2.2
theorem l30Draw_l1 {c : List Int} (hc : CodeOk c) (w h : Int) (hw : 1 ≤ w) (hw4 : w ≤ 4) (hh : 1 ≤ h) (hh4 : h ≤ 4) (tiles : List Tl) (hN : tiles.length ≤ 12) (hN1 : 1 ≤ tiles.length) (p s : Int) (hS : SrcOk c p s) :
    ∃ r, DrawOk c r ∧ Ev (fun k => spec_l30Draw.l1 k w h tiles [] 0 c p s) r := by
  refine ev_inv0 tiles.length (fun (z : List Tl × Int × Int) j => z.1.length = j ∧ SrcOk c z.2.1 z.2.2) (DrawOk c) (fun z i k => spec_l30Draw.l1 k w h tiles z.1 i c z.2.1 z.2.2) (fun z hi => ?_) (fun z j hj hi => .inr ?_) ([], p, s) ⟨rfl, hS⟩
  · obtain ⟨hl, hs⟩ := hi
    obtain ⟨i, p1, s1, e1, i0, iz, i1, hs1⟩ := next_ok hc hs (z.1.length : Int)
    obtain ⟨q, p2, s2, e2, q0, _, q1, hs2⟩ := next_ok hc hs1 16
    have hil : i < (z.1.length : Int) := by
      by_cases d : 1 < (z.1.length : Int)
      · exact i1 d
      · have := iz (by omega); omega
    have st : ∀ k, spec_l30Draw.l1 (k + 1) w h tiles z.1 (tiles.length : Int) c z.2.1 z.2.2 = _ := fun k => by
      simp only [spec_l30Draw.l1]
      rw [if_neg (by omega), e1, Option.bind_some, e2, Option.bind_some]
    have fin : ∀ r, DrawOk c r → (∀ k, spec_l30Draw.l1 (k + 1) w h tiles z.1 (tiles.length : Int) c z.2.1 z.2.2 = some r) → ∃ r, DrawOk c r ∧ Ev (fun k => spec_l30Draw.l1 k w h tiles z.1 (tiles.length : Int) c z.2.1 z.2.2) r := fun r hr h => ⟨r, hr, Ev.step (f := fun _ => some r) h (Ev.now _)⟩
    simp only [st] at fin
    by_cases c0 : q = 0
    · obtain ⟨x, p3, s3, e3, x0, _, x1, hs3⟩ := next_ok hc hs2 3
      refine fin (z.1.set i.toNat ⟨rd [-10, 9, 10] x, (rd_T24 z.1 i).f1, (rd_T24 z.1 i).f2, (rd_T24 z.1 i).f3⟩, w, h, p3, s3) ⟨by simp only [List.length_set]; omega, hw, by simp only; omega, hh, hh4, hs3⟩ fun k => ?_
      rw [if_pos c0, Option.bind_some, e3, Option.bind_some, if_pos x0, if_pos (by simpa using x1 (by omega)), if_pos i0, if_pos hil]
    · simp only [if_neg c0] at fin
      by_cases c1 : q = 1
      · refine fin (z.1.drop 1, w, h, p2, s2) ⟨by simp only [List.length_drop]; omega, hw, by simp only; omega, hh, hh4, hs2⟩ fun k => ?_
        rw [if_pos c1, if_pos (by omega)]
        rfl
      · simp only [if_neg c1] at fin
        by_cases c2 : q = 2
        · refine fin (z.1.set i.toNat ⟨(rd_T24 z.1 i).f0, (rd_T24 z.1 i).f1, (rd_T24 z.1 i).f2, wrap64 ((rd_T24 z.1 i).f3 + 1)⟩, w, h, p2, s2) ⟨by simp only [List.length_set]; omega, hw, by simp only; omega, hh, hh4, hs2⟩ fun k => ?_
          rw [if_pos c2, if_pos i0, if_pos hil]
        · simp only [if_neg c2] at fin
          by_cases c3 : q = 3
          · refine fin (z.1, w + 1, h, p2, s2) ⟨by simp only; omega, by simp only; omega, by simp only; omega, hh, hh4, hs2⟩ fun k => ?_
            rw [if_pos c3, show wrap64 (w + 1) = w + 1 from by unfold wrap64; omega]
          · simp only [if_neg c3] at fin
            by_cases c4 : q = 4
            · refine fin (z.1.set i.toNat ⟨(rd_T24 z.1 i).f0, (rd_T24 z.1 i).f1, wrap64 (-(rd_T24 z.1 i).f2), (rd_T24 z.1 i).f3⟩, w, h, p2, s2) ⟨by simp only [List.length_set]; omega, hw, by simp only; omega, hh, hh4, hs2⟩ fun k => ?_
              rw [if_pos c4, if_pos i0, if_pos hil]
            · refine fin (z.1, w, h, p2, s2) ⟨by simp only; omega, hw, by simp only; omega, hh, hh4, hs2⟩ fun k => ?_
              rw [if_neg c4]
  · obtain ⟨hl, hs⟩ := hi
    have ew : wrap64 ((z.1.length : Int) + 1) = ((j + 1 : Nat) : Int) := by rw [hl]; exact wrap_succ j (by omega)
    obtain ⟨i, p1, s1, e1, i0, i2, i1, hs1⟩ := next_ok hc hs (wrap64 ((z.1.length : Int) + 1))
    have hil : i ≤ (z.1.length : Int) := by
      rw [ew] at i1 i2
      by_cases d : 1 < ((j + 1 : Nat) : Int)
      · have := i1 d; omega
      · have := i2 (by omega); omega
    obtain ⟨n, p2, s2, e2, n0, _, n1, hs2⟩ := next_ok hc hs1 4
    refine ⟨(z.1.take i.toNat ++ [turnT (rd_T24 tiles (j : Int)) n] ++ z.1.drop i.toNat, p2, s2), ⟨by simp only [List.length_append, List.length_take, List.length_drop, List.length_cons, List.length_nil]; omega, hs2⟩, fun r h2 => Ev.step (fun k => ?_) h2⟩
    have t1 : (z.1.take i.toNat).length ≤ z.1.length := by rw [List.length_take]; omega
    simp only [spec_l30Draw.l1]
    rw [if_pos (by omega), e1]
    simp only [Option.bind_some, List.nil_append]
    rw [if_pos i0, if_pos hil, if_pos (by simp only [List.length_nil]; omega), if_pos (by omega), e2]
    simp only [Option.bind_some]
    rw [l30Turn_eq _ n n0 (by have := n1 (by omega); omega)]
    simp only [Option.bind_some, tup]
    rw [if_pos (by omega), if_pos (by simp only [List.length_append, List.length_take, List.length_drop, List.length_cons, List.length_nil]; omega), wrap_succ j (by omega)]
/-- From one place on: the loop goes on with one tile more. -/
def Goes (c : List Int) (w h kinds : Int) (j : Nat) (F : Nat → Option (List Tl × Int × Int × Int × Int)) : Prop :=
  ∃ (tiles : List Tl) (p s : Int), tiles.length = j + 1 ∧ SrcOk c p s ∧ ∀ r, Ev (fun k => spec_l30Draw.l0 k w h kinds tiles ((j + 1 : Nat) : Int) c p s) r → Ev F r
theorem Goes.step {c : List Int} {w h kinds : Int} {j : Nat} {F G : Nat → Option (List Tl × Int × Int × Int × Int)} (hF : ∀ k, F (k + 1) = G k) (g : Goes c w h kinds j G) : Goes c w h kinds j F := by
  obtain ⟨t, p, s, h1, h2, h3⟩ := g
  exact ⟨t, p, s, h1, h2, fun r hr => Ev.step hF (h3 r hr)⟩
theorem l30Draw_j3 {c : List Int} (hc : CodeOk c) (w h kinds : Int) (tiles : List Tl) (hN : tiles.length ≤ 12) (p s : Int) (hS : SrcOk c p s) (x0 x1 x2 x3 : Int) :
    Goes c w h kinds tiles.length (fun k => spec_l30Draw.j3 k w h kinds tiles (tiles.length : Int) c p s x0 x1 x2 x3) := by
  obtain ⟨a, p1, s1, e1, _, _, _, hs1⟩ := next_ok hc hS kinds
  obtain ⟨b, p2, s2, e2, _, _, _, hs2⟩ := next_ok hc hs1 2
  by_cases d : (wrap64 ((tiles.length : Int) + w)) < (wrap64 (w * h))
  · refine ⟨tiles ++ [⟨x0, x1, wrap64 ((wrap64 (1 + a)) * (wrap64 (1 - (wrap64 (2 * b))))), x3⟩], p2, s2, by simp, hs2, fun r hr => Ev.step (fun k => ?_) hr⟩
    simp only [spec_l30Draw.j3]
    rw [if_pos d, e1, Option.bind_some, e2, Option.bind_some, if_pos (by omega), wrap_succ _ (by omega)]
  · refine ⟨tiles ++ [⟨x0, x1, x2, x3⟩], p, s, by simp, hS, fun r hr => Ev.step (fun k => ?_) hr⟩
    simp only [spec_l30Draw.j3]
    rw [if_neg d, if_pos (by omega), wrap_succ _ (by omega)]
theorem l30Draw_j2 {c : List Int} (hc : CodeOk c) (w h kinds : Int) (hw : 1 ≤ w) (tiles : List Tl) (hN : tiles.length ≤ 12) (p s : Int) (hS : SrcOk c p s) (x0 x1 x2 x3 : Int) :
    Goes c w h kinds tiles.length (fun k => spec_l30Draw.j2 k w h kinds tiles (tiles.length : Int) c p s x0 x1 x2 x3) := by
  obtain ⟨a, p1, s1, e1, _, _, _, hs1⟩ := next_ok hc hS kinds
  obtain ⟨b, p2, s2, e2, _, _, _, hs2⟩ := next_ok hc hs1 2
  by_cases d : (Int.tmod (tiles.length : Int) w) < (wrap64 (w - 1))
  · refine Goes.step (fun k => ?_) (l30Draw_j3 hc w h kinds tiles hN p2 s2 hs2 x0 (wrap64 ((wrap64 (1 + a)) * (wrap64 (1 - (wrap64 (2 * b)))))) x2 x3)
    simp only [spec_l30Draw.j2]
    rw [if_neg (by omega), if_pos d, e1, Option.bind_some, e2, Option.bind_some]
  · refine Goes.step (fun k => ?_) (l30Draw_j3 hc w h kinds tiles hN p s hS x0 x1 x2 x3)
    simp only [spec_l30Draw.j2]
    rw [if_neg (by omega), if_neg d]
theorem l30Draw_j1 {c : List Int} (hc : CodeOk c) (w h kinds : Int) (hw : 1 ≤ w) (hw4 : w ≤ 4) (tiles : List Tl) (hN : tiles.length ≤ 12) (p s : Int) (hS : SrcOk c p s) (x0 x1 x2 x3 : Int) :
    Goes c w h kinds tiles.length (fun k => spec_l30Draw.j1 k w h kinds tiles (tiles.length : Int) c p s x0 x1 x2 x3) := by
  by_cases d : (tiles.length : Int) ≥ w
  · have e : wrap64 ((tiles.length : Int) - w) = (tiles.length : Int) - w := by unfold wrap64; omega
    refine Goes.step (fun k => ?_) (l30Draw_j2 hc w h kinds hw tiles hN p s hS (wrap64 (-((rd_T24 tiles (wrap64 ((tiles.length : Int) - w))).f2))) x1 x2 x3)
    simp only [spec_l30Draw.j1]
    rw [if_pos d, if_pos (by omega), if_pos (by omega)]
  · refine Goes.step (fun k => ?_) (l30Draw_j2 hc w h kinds hw tiles hN p s hS x0 x1 x2 x3)
    simp only [spec_l30Draw.j1]
    rw [if_neg d]
theorem l30Draw_l0 {c : List Int} (hc : CodeOk c) (w h kinds : Int) (hw : 1 ≤ w) (hw4 : w ≤ 4) (tiles : List Tl) (hN : tiles.length ≤ 12) (hlt : (tiles.length : Int) < wrap64 (w * h)) (p s : Int) (hS : SrcOk c p s) :
    Goes c w h kinds tiles.length (fun k => spec_l30Draw.l0 k w h kinds tiles (tiles.length : Int) c p s) := by
  by_cases d : (Int.tmod (tiles.length : Int) w) > 0
  · have hl : 1 ≤ tiles.length := by
      by_cases z : tiles.length = 0
      · rw [z] at d; simp at d
      · omega
    have e : wrap64 ((tiles.length : Int) - 1) = (tiles.length : Int) - 1 := by unfold wrap64; omega
    refine Goes.step (fun k => ?_) (l30Draw_j1 hc w h kinds hw hw4 tiles hN p s hS 0 0 0 (wrap64 (-((rd_T24 tiles (wrap64 ((tiles.length : Int) - 1))).f1))))
    simp only [spec_l30Draw.l0]
    rw [if_pos hlt, if_neg (by omega), if_pos d, if_pos (by omega), if_pos (by omega)]
  · refine Goes.step (fun k => ?_) (l30Draw_j1 hc w h kinds hw hw4 tiles hN p s hS 0 0 0 0)
    simp only [spec_l30Draw.l0]
    rw [if_pos hlt, if_neg (by omega), if_neg d]
theorem l30Draw_all {c : List Int} (hc : CodeOk c) (w h kinds : Int) (hw : 1 ≤ w) (hw4 : w ≤ 4) (hh : 1 ≤ h) (hh4 : h ≤ 4) (N : Nat) (hN : wrap64 (w * h) = N) (h12 : N ≤ 12) (h1 : 1 ≤ N) (p s : Int) (hS : SrcOk c p s) :
    ∃ r, DrawOk c r ∧ Ev (fun k => spec_l30Draw.l0 k w h kinds [] 0 c p s) r := by
  refine ev_inv0 N (fun (z : List Tl × Int × Int) j => z.1.length = j ∧ SrcOk c z.2.1 z.2.2) (DrawOk c) (fun z i k => spec_l30Draw.l0 k w h kinds z.1 i c z.2.1 z.2.2) (fun z hi => ?_) (fun z j hj hi => .inr ?_) ([], p, s) ⟨rfl, hS⟩
  · obtain ⟨hl, hs⟩ := hi
    obtain ⟨r, hr, he⟩ := l30Draw_l1 hc w h hw hw4 hh hh4 z.1 (by omega) (by omega) z.2.1 z.2.2 hs
    refine ⟨r, hr, Ev.step (fun k => ?_) he⟩
    simp only [spec_l30Draw.l0]
    rw [if_neg (by omega)]
  · obtain ⟨hl, hs⟩ := hi
    obtain ⟨t, p', s', g1, g2, g3⟩ := l30Draw_l0 hc w h kinds hw hw4 z.1 (by omega) (by omega) z.2.1 z.2.2 hs
    rw [hl] at g1 g3
    exact ⟨(t, p', s'), ⟨g1, g2⟩, g3⟩
theorem l30Draw_ev {c : List Int} (hc : CodeOk c) (p s : Int) (hS : SrcOk c p s) : ∃ r, DrawOk c r ∧ Ev (fun k => spec_l30Draw.f k c p s) r := by
  obtain ⟨i, p1, s1, e1, i0, _, i1, hs1⟩ := next_ok hc hS 8
  have i8 := i1 (by omega)
  obtain ⟨b, p2, s2, e2, _, _, _, hs2⟩ := next_ok hc hs1 4
  have key : ∀ w h : Int, 1 ≤ w → w ≤ 4 → 1 ≤ h → h ≤ 4 → w * h ≤ 12 → rd_L4 [[2, 2], [3, 2], [2, 3], [3, 3], [1, 3], [4, 2], [1, 1], [3, 4]] i = [w, h] → ∃ r, DrawOk c r ∧ Ev (fun k => spec_l30Draw.f k c p s) r := by
    intro w h hw hw4 hh hh4 h12 he
    have h1 : 1 ≤ w * h := by have := Int.mul_le_mul hw hh (by omega) (by omega); omega
    obtain ⟨r, hr, hE⟩ := l30Draw_all hc w h (wrap64 (1 + b)) hw hw4 hh hh4 (w * h).toNat (by unfold wrap64; omega) (by omega) (by omega) p2 s2 hs2
    refine ⟨r, hr, Ev.unfold (fun k => ?_) hE⟩
    unfold spec_l30Draw.f
    rw [Option.bind_some, e1, Option.bind_some, if_pos i0, if_pos (by simpa using i8), he]
    simp only [List.length_cons, List.length_nil]
    rw [if_pos (by omega), if_pos (by omega), e2]
    rfl
  have : i = 0 ∨ i = 1 ∨ i = 2 ∨ i = 3 ∨ i = 4 ∨ i = 5 ∨ i = 6 ∨ i = 7 := by omega
  rcases this with rfl | rfl | rfl | rfl | rfl | rfl | rfl | rfl
  · exact key 2 2 (by omega) (by omega) (by omega) (by omega) (by omega) rfl
  · exact key 3 2 (by omega) (by omega) (by omega) (by omega) (by omega) rfl
  · exact key 2 3 (by omega) (by omega) (by omega) (by omega) (by omega) rfl
  · exact key 3 3 (by omega) (by omega) (by omega) (by omega) (by omega) rfl
  · exact key 1 3 (by omega) (by omega) (by omega) (by omega) (by omega) rfl
  · exact key 4 2 (by omega) (by omega) (by omega) (by omega) (by omega) rfl
  · exact key 1 1 (by omega) (by omega) (by omega) (by omega) (by omega) rfl
  · exact key 3 4 (by omega) (by omega) (by omega) (by omega) (by omega) rfl
end Go.Proofs.Ytgcagmmghckbbaa.A

/- Layouts: of whatever jigsaw is drawn, both find and count the same; what is found is a correct layout, and there is none exactly if their number is 0. -/
namespace Go.Proofs.Ytgcagmmghckbbaa.Pure
set_option linter.unusedSimpArgs false
set_option linter.unusedVariables false
open Go.RowKit Go.Proofs.YtgcagmmghckbbaaW.PrintWords Go.Proofs.YtgcagmmghckbbaaW.PrintLast Go.Proofs.YtgcagmmghckbbaaW.PrintMore Go.Proofs.Ytgcagmmghckbbaa.A
theorem solOut_good (l : List Tl) (w h : Int) : ((solOut l w h).2 = 0 → layV l w h (solOut l w h).1 = true) ∧ ((solOut l w h).2 ≠ 0 → (solOut l w h).1 = []) := by
  unfold solOut outS
  split
  · rename_i c
    cases hf : (searchV l w h 1).found with
    | nil =>
      simp only
      split
      · exact ⟨fun e => absurd e (by decide), fun _ => rfl⟩
      · exact ⟨fun e => absurd e (by decide), fun _ => rfl⟩
    | cons x xs =>
      refine ⟨fun _ => ?_, fun e => absurd rfl e⟩
      have := search_good l w h 1 x (by rw [show visitV l w h 1 l.length [] [] ⟨0, [], false⟩ = searchV l w h 1 from rfl, hf]; simp)
      unfold layV
      rw [decide_eq_true c, decide_eq_true this.1]
      exact this.2
  · rename_i c
    exact ⟨fun e => absurd e c, fun _ => rfl⟩
theorem FnLayouts : Go.Proofs.Ytgcagmmghckbbaa.A.FnLayouts.Pure := by
  intro c hcode
  apply Ev.rounds
  unfold laws_FnLayouts.f
  by_cases big : (c.length : Int) > 4096
  · exact Ev.bindc (a := true) (by unfold laws_big.f; simp only [decide_eq_true big]) (Ev.val fun k => by simp)
  refine Ev.bindc (a := false) (by unfold laws_big.f; simp only [decide_eq_false big]) ?_
  simp only [Bool.false_eq_true, if_false]
  have hc : CodeOk c := codeOk_of (by omega) hcode.2
  obtain ⟨p, s, hS, hF⟩ := from_ok hc
  obtain ⟨x, hx, hE⟩ := l30Draw_ev hc p s hS
  obtain ⟨tiles, wd, hg, p1, s1⟩ := x
  obtain ⟨hl, hw1, hw5, hh1, hh4, _⟩ := hx
  simp only at hl hw1 hw5 hh1 hh4
  have hL : tiles.length ≤ 1048576 := by omega
  obtain ⟨hg0, hg1⟩ := solOut_good tiles wd hg
  have hlen : (solOut tiles wd hg).1.length ≤ 1048576 := by
    by_cases d : (solOut tiles wd hg).2 = 0
    · have := (layV_true (hg0 d)).2.1; omega
    · rw [hg1 d]; simp
  have hSS : Ev (fun k => spec_SolveJigsaw.f k tiles wd hg) (solOut tiles wd hg) := Ev.val fun k => by unfold spec_SolveJigsaw.f; exact if_pos hL
  have hSI : Ev (fun k => impl_SolveJigsaw.f k tiles wd hg) (solOut tiles wd hg) := Ev.val fun k => rfl
  have hCS : Ev (fun k => spec_CountLayouts.f k tiles wd hg) (cntOut tiles wd hg) := Ev.val fun k => by unfold spec_CountLayouts.f; exact if_pos hL
  have hCI : Ev (fun k => impl_CountLayouts.f k tiles wd hg) (cntOut tiles wd hg) := Ev.val fun k => rfl
  refine Ev.bind (a := (tiles, wd, hg)) (by unfold spec_DrawSolveJigsaw.f; exact Ev.bind hF (Ev.bind hE (Ev.now _))) (Ev.bind hSI (Ev.bind hSS (Ev.bind hCI (Ev.bind hCS ?_))))
  simp only [if_true]
  refine Ev.bind (likeSets_ev _ hlen) ?_
  simp only [if_true, bne_self_eq_false]
  refine Ev.succ ?_
  simp only [laws_FnLayouts.j0, Bool.false_eq_true, if_false]
  have fin : Ev (fun k => laws_FnLayouts.j1 k tiles wd hg (solOut tiles wd hg).1 (solOut tiles wd hg).2 false) true := by
    refine Ev.succ ?_
    simp only [laws_FnLayouts.j1, Bool.false_eq_true, if_false]
    by_cases d : (solOut tiles wd hg).2 = 0
    · simp only [d, if_true]
      refine Ev.bind (implEdgeSum_ev tiles hL) ?_
      simp only [lay_edges (hg0 d), if_true]
      refine Ev.bind (implIsCorrect_ev tiles wd hg _ hlen) ?_
      rw [hg0 d]
      exact Ev.now _
    · simp only [d, if_false]
      exact Ev.now _
  by_cases d : (cntOut tiles wd hg).2 = 0
  · simp only [d, if_true]
    have hz := none_zero tiles wd hg d
    have e : (((cntOut tiles wd hg).1 == 0) != ((solOut tiles wd hg).2 == 4)) = false := by
      rw [beq_ne]
      simpa using hz
    simp only [e]
    exact fin
  · simp only [d, if_false]
    exact fin
end Go.Proofs.Ytgcagmmghckbbaa.Pure

