/- What the row of the law FnExactAllCovers stands on, part 1. -/
import Derived.Test.YtoglcgnbkibpgaaDoorProg
import Derived.Below
import Derived.Deep.Draws
import Derived.Deep.AppendLies
import Derived.Maps.AppendAt
import Derived.OwnWalk
import Derived.Laws.BytesArg
import Derived.Laws.MakeOwn
import Derived.Laws.OwnMore
import Derived.Deep.OwnRows
import Derived.Tactics
import Derived.Lib.ConvBytes
import Derived.Laws.Slices
import Derived.WalkKit
import Derived.KernelRfl
import Derived.RowKit3
import Derived.Deep.LoopGhost
import Derived.Deep.QuietTactic
import Derived.BigQuiet
import Derived.WideLaws
import Derived.Deep.DeepCutAuto
import Derived.Deep.CutBlock
import Derived.Deep.RegionHeld3
import Derived.Laws.Rows
import Derived.Lib.AppendStr
import Derived.ArgAppend
import Derived.Laws.IdiomCopy
import Derived.OrdersHeld
import Derived.Laws.BitsLemmas
import Derived.RowKit
import Derived.Shelf.Spec.TrailingZeros
import Derived.Laws.BitsAllLaws
import Derived.Lib.TrailingZeros
import Derived.Deep.MidRow
import Derived.WalkSpells
import Derived.Ground.SlgmProg
import Derived.Shelf.SortM.Plain
import Derived.Shelf.SortM.SortNone
import Derived.Lib.OwnBridge
import Derived.Deep.Slices
import Derived.ChangeArms
import Derived.WideShapes
import Derived.OpenShut
import Derived.ChangeOld
import Derived.ProofKit
import Derived.ShutString
import Derived.SizedLaws
import Derived.Test.YtoglcgnbkibpgaaDoorMFnExactAllCovers0
/- Small words of this session's walks: where a walk is to stop. -/
namespace Go.Proofs.YtoglcgnbkibpgaaDoorW.PrintMore
/-- The walk stops here: it doesn't look into this. -/
structure Stop0 (p : Prop) : Prop where mk :: (out : p)
end Go.Proofs.YtoglcgnbkibpgaaDoorW.PrintMore
namespace Go.Proofs.YtoglcgnbkibpgaaDoorW.PrintWords
/-- Short names, for texts that are made shorter (tools/compress.py). -/
abbrev tt : Bool := true
abbrev ff : Bool := false
theorem A0_ {p : Prop} (h : p) : Aside0 p := ⟨h⟩
theorem sia_ {α : Type} (l : List α) (i : Nat) (a : α) : l.toArray.setIfInBounds i a = (l.set i a).toArray := List.setIfInBounds_toArray ..
theorem sz_ {α : Type} {l : List α} {a b : α} : (a :: l).set 0 b = b :: l := List.set_cons_zero ..
theorem ss_ {α : Type} {l : List α} {n : Nat} {a b : α} : (a :: l).set (n + 1) b = a :: l.set n b := List.set_cons_succ ..
end Go.Proofs.YtoglcgnbkibpgaaDoorW.PrintWords
namespace Go.Proofs.YtoglcgnbkibpgaaDoorW.PrintWords
open Go.RowKit
theorem ba_ {w W : World} (h : Below w.heap.size w W) (o : Obj) : Below w.heap.size w (W.alloc o) := below_alloc h o
theorem bn_ {B : Nat} {w W : World} (h : Below B w W) (n : Nat) : Below B w (W.drewN n) := pw_below_drewN h n
theorem bd_ {B : Nat} {w W : World} (h : Below B w W) : Below B w W.drew := below_drew1 h
theorem ks_ {w w1 : World} {g : Nat} {row : Option Nat} (h : KeepBut w w1 g row) (j : Nat) (u : Value) : KeepBut w (w1.setCell { block := g, off := j } u) g row := KeepBut.set_ h j u
theorem kn_ {w W : World} {g : Nat} {row : Option Nat} (h : KeepBut w W g row) (m : Nat) : KeepBut w (W.drewN m) g row := keep_drewN h m
theorem kd_ {w W : World} {g : Nat} {row : Option Nat} (h : KeepBut w W g row) : KeepBut w W.drew g row := keep_drew h
theorem ka_ {w W : World} {g : Nat} (h : KeepBut w W g none) (o : Obj) : KeepBut w (W.alloc o) g none := keep_alloc h o
theorem gn_ {w : World} {g : Nat} {o : Obj} (h : w.heap[g]? = some o) (n : Nat) : (w.drewN n).heap[g]? = some o := blk_drewN h n
theorem gd_ {w : World} {g : Nat} {o : Obj} (h : w.heap[g]? = some o) : w.drew.heap[g]? = some o := blk_drew h
theorem ga_ {w : World} {g : Nat} {o : Obj} (h : w.heap[g]? = some o) (o' : Obj) : (w.alloc o').heap[g]? = some o := blk_alloc h o'
section
variable {α : Type} {d : Kd α} {e : Nat} {w : World} {base : Nat} {ok : Nat → Prop} {v : Value} {xs : List α}
theorem Ra_ (h : d.R e w base ok v xs) (o : Obj) : d.R e (w.alloc o) base ok v xs := Kd.R_alloc h o
theorem Rn_ (h : d.R e w base ok v xs) (m : Nat) : d.R e (w.drewN m) base ok v xs := Kd.R_drewN h m
theorem Rd_ (h : d.R e w base ok v xs) : d.R e w.drew base ok v xs := Kd.R_drew h
theorem Qa_ (h : d.Q e w base ok v xs) (o : Obj) : d.Q e (w.alloc o) base ok v xs := Kd.Q_alloc h o
theorem Qn_ (h : d.Q e w base ok v xs) (m : Nat) : d.Q e (w.drewN m) base ok v xs := Kd.Q_drewN h m
theorem Qd_ (h : d.Q e w base ok v xs) : d.Q e w.drew base ok v xs := Kd.Q_drew h
end
end Go.Proofs.YtoglcgnbkibpgaaDoorW.PrintWords

/- Frames by types: below 'base' nothing turns, and from there on only blocks of the listed types. For functions that write through a pointer. -/
namespace Go.Proofs.YtoglcgnbkibpgaaDoorW.PrintMore
open Go.RowKit Go.Proofs.YtoglcgnbkibpgaaDoorW.PrintWords
structure Fr (base : Nat) (ts : List Nat) (w w' : World) : Prop where
  os : w'.os = w.os
  tape : w'.tape = w.tape
  output : w'.output = w.output
  size : w.heap.size ≤ w'.heap.size
  keep : ∀ k, k < w.heap.size → (k < base ∨ ∃ cells t fr, w.heap[k]? = some (.cells cells t fr) ∧ t ∉ ts) → w'.heap[k]? = w.heap[k]?
namespace Fr
variable {base : Nat} {ts : List Nat} {w w1 w2 : World}
theorem refl (base : Nat) (ts : List Nat) (w : World) : Fr base ts w w := ⟨rfl, rfl, rfl, Nat.le_refl _, fun _ _ _ => rfl⟩
theorem trans (h : Fr base ts w w1) (k : Fr base ts w1 w2) : Fr base ts w w2 :=
  ⟨k.os.trans h.os, k.tape.trans h.tape, k.output.trans h.output, Nat.le_trans h.size k.size, fun i hi hk => by
    have e := h.keep i hi hk
    refine (k.keep i (Nat.lt_of_lt_of_le hi h.size) ?_).trans e
    rcases hk with hk | ⟨c, t, fr, hc, ht⟩
    · exact .inl hk
    · exact .inr ⟨c, t, fr, e.trans hc, ht⟩⟩
theorem of_below (h : Below w.heap.size w w1) : Fr base ts w w1 := ⟨h.os, h.tape, h.output, h.size, fun i hi _ => h.block i hi⟩
theorem alloc (h : Fr base ts w w1) (o : Obj) : Fr base ts w (w1.alloc o) := h.trans (of_below (below_alloc (Below.refl _ _) o))
theorem drew (h : Fr base ts w w1) : Fr base ts w w1.drew := ⟨h.os, h.tape, h.output, h.size, h.keep⟩
theorem drewN (h : Fr base ts w w1) (n : Nat) : Fr base ts w (w1.drewN n) := ⟨h.os, h.tape, h.output, h.size, h.keep⟩
theorem set (h : Fr base ts w w1) {p : Addr} {cells : Array Value} {t : Nat} {fr : Nat × Nat} (hp : w1.heap[p.block]? = some (.cells cells t fr)) (ht : t ∈ ts) (hb : base ≤ p.block) (u : Value) : Fr base ts w (w1.setCell p u) :=
  h.trans ⟨rfl, rfl, rfl, by simp [World.setCell], fun i hi hk => Below.heap_setCell _ _ _ _ (by
    rintro rfl
    rcases hk with hk | ⟨c, t', fr', hc, ht'⟩
    · omega
    · rw [hp] at hc
      injection hc with hc
      injection hc with _ hc _
      exact ht' (hc ▸ ht))⟩
theorem grown (h : Fr base ts w w1) {row : Option Nat} (hg : w1.grownBy w2 row) (hr : ∀ k, row = some k → base ≤ k ∧ ∃ cells t fr, w1.heap[k]? = some (.cells cells t fr) ∧ t ∈ ts) : Fr base ts w w2 :=
  h.trans ⟨hg.os, hg.tape, hg.output, hg.size, fun i hi hk => hg.block i hi (fun e => by
    obtain ⟨hb, c, t, fr, hc, ht⟩ := hr i e.symm
    rcases hk with hk | ⟨c', t', fr', hc', ht'⟩
    · omega
    · rw [hc] at hc'
      injection hc' with hc'
      injection hc' with _ hc' _
      exact ht' (hc' ▸ ht))⟩
theorem below (h : Fr base ts w w1) {w0 : World} (hb : Below base w0 w) (hs : base ≤ w.heap.size) : Below base w0 w1 :=
  ⟨h.os.trans hb.os, h.tape.trans hb.tape, h.output.trans hb.output, Nat.le_trans hb.size h.size, fun i hi => (h.keep i (by omega) (.inl hi)).trans (hb.block i hi)⟩
theorem blk (h : Fr base ts w w1) {g : Nat} {cells : Array Value} {t : Nat} {fr : Nat × Nat} (hg : w.heap[g]? = some (.cells cells t fr)) (ht : t ∉ ts) : w1.heap[g]? = some (.cells cells t fr) :=
  (h.keep g (blk_lt hg) (.inr ⟨_, _, _, hg, ht⟩)).trans hg
theorem mono {ts' : List Nat} (h : Fr base ts w w1) (ht : ∀ t, t ∈ ts → t ∈ ts') : Fr base ts' w w1 :=
  ⟨h.os, h.tape, h.output, h.size, fun i hi hk => h.keep i hi (by
    rcases hk with hk | ⟨c, t, fr, hc, hn⟩
    · exact .inl hk
    · exact .inr ⟨c, t, fr, hc, fun hm => hn (ht t hm)⟩)⟩
end Fr
theorem R_typed {α : Type} {d : Kd α} {e b : Nat} {w : World} {ok : Nat → Prop} {v : Value} {xs : List α} (h : d.R e w b ok v xs) {ts : List Nat} (he : e ∈ ts) {base : Nat} (hb : base ≤ b) :
    ∀ k, v.ownBlock = some k → base ≤ k ∧ ∃ cells t fr, w.heap[k]? = some (.cells cells t fr) ∧ t ∈ ts := fun k hk => by
  obtain ⟨_, inner, ho, _⟩ := h
  obtain ⟨cells, hc⟩ := own_typed ho k hk
  exact ⟨Nat.le_trans hb (own_base ho k hk), cells, e, (0, 0), hc, he⟩
end Go.Proofs.YtoglcgnbkibpgaaDoorW.PrintMore

/- Separate resources of a world: blocks and rows of the call's own, whose footprints don't meet. One fact in the place of many. -/
namespace Go.Proofs.YtoglcgnbkibpgaaDoorW.PrintMore
open Go.RowKit Go.Proofs.YtoglcgnbkibpgaaDoorW.PrintWords
set_option linter.unusedVariables false
/-- What holds of some blocks alone. -/
structure Res where
  P : (Nat → Prop) → World → Prop
  mono : ∀ {fp fp' : Nat → Prop} {w : World}, (∀ k, fp k → fp' k) → P fp w → P fp' w
  move : ∀ {fp : Nat → Prop} {w w' : World}, (∀ k, fp k → k < w.heap.size → w'.heap[k]? = w.heap[k]?) → P fp w → P (fun k => fp k ∧ k < w.heap.size) w'
/-- The listed resources lie apart from one another, and nothing below w0 has turned. -/
structure Sp (w0 : World) (rs : List Res) (w : World) : Prop where
  below : Below w0.heap.size w0 w
  foot : ∃ F : Nat → Nat → Prop, (∀ (i : Nat) (r : Res), rs[i]? = some r → r.P (F i) w) ∧ (∀ i j k, i ≠ j → F i k → ¬ F j k) ∧ (∀ i k, F i k → w0.heap.size ≤ k ∧ k < w.heap.size)
/-- The step from w to w' leaves all old blocks but those of fp. -/
structure Turns (fp : Nat → Prop) (w w' : World) : Prop where
  os : w'.os = w.os
  tape : w'.tape = w.tape
  output : w'.output = w.output
  size : w.heap.size ≤ w'.heap.size
  block : ∀ k, k < w.heap.size → ¬ fp k → w'.heap[k]? = w.heap[k]?
theorem Turns.of_below {fp : Nat → Prop} {w w' : World} (h : Below w.heap.size w w') : Turns fp w w' := ⟨h.os, h.tape, h.output, h.size, fun k hk _ => h.block k hk⟩
theorem Turns.of_grown {fp : Nat → Prop} {w w' : World} {row : Option Nat} (h : w.grownBy w' row) (hr : ∀ k, row = some k → fp k) : Turns fp w w' :=
  ⟨h.os, h.tape, h.output, h.size, fun k hk hn => h.block k hk (fun e => hn (hr k e.symm))⟩
theorem Turns.set {fp : Nat → Prop} {w : World} {p : Addr} (hp : fp p.block) (u : Value) : Turns fp w (w.setCell p u) :=
  ⟨rfl, rfl, rfl, by simp [World.setCell], fun k hk hn => Below.heap_setCell w p u k (fun e => hn (e ▸ hp))⟩
theorem Turns.below {fp : Nat → Prop} {w0 w w' : World} (h : Turns fp w w') (hb : Below w0.heap.size w0 w) (hf : ∀ k, fp k → w0.heap.size ≤ k) : Below w0.heap.size w0 w' :=
  ⟨h.os.trans hb.os, h.tape.trans hb.tape, h.output.trans hb.output, Nat.le_trans hb.size h.size, fun k hk => (h.block k (Nat.lt_of_lt_of_le hk hb.size) (fun hp => Nat.lt_irrefl _ (Nat.lt_of_lt_of_le hk (hf k hp)))).trans (hb.block k hk)⟩
namespace Sp
variable {w0 w w' : World} {rs rs' : List Res} {r r' : Res} {i : Nat}
theorem start (w : World) : Sp w [] w := ⟨Below.refl _ _, fun _ _ => False, fun i r h => by simp at h, fun _ _ _ _ h => h.elim, fun _ _ h => h.elim⟩
theorem get (h : Sp w0 rs w) (hi : rs[i]? = some r) : ∃ fp : Nat → Prop, r.P fp w ∧ ∀ k, fp k → w0.heap.size ≤ k ∧ k < w.heap.size := by
  obtain ⟨F, h1, _, h3⟩ := h.foot
  exact ⟨F i, h1 i r hi, h3 i⟩
/-- One resource turns, whatever its footprint is. -/
theorem upd (h : Sp w0 rs w) (hi : rs[i]? = some r) (hw : ∀ fp : Nat → Prop, r.P fp w → (∀ k, fp k → w0.heap.size ≤ k ∧ k < w.heap.size) → Turns fp w w' ∧ r'.P (fun k => fp k ∨ (w.heap.size ≤ k ∧ k < w'.heap.size)) w') : Sp w0 (rs.set i r') w' := by
  obtain ⟨F, h1, h2, h3⟩ := h.foot
  obtain ⟨ht, hr⟩ := hw (F i) (h1 i r hi) (h3 i)
  refine ⟨ht.below h.below (fun k hk => (h3 i k hk).1), fun j => if j = i then (fun k => F i k ∨ (w.heap.size ≤ k ∧ k < w'.heap.size)) else F j, fun j s hj => ?_, fun j l k hjl => ?_, fun j k => ?_⟩
  · by_cases e : j = i
    · subst e
      have hl : j < rs.length := (List.getElem?_eq_some_iff.1 hi).1
      rw [List.getElem?_set_self hl] at hj
      injection hj with hj
      subst hj
      simpa using hr
    · rw [List.getElem?_set_ne (Ne.symm e)] at hj
      simp only [if_neg e]
      exact s.mono (fun k hk => hk.1) (s.move (fun k hk hlt => ht.block k hlt (fun hik => h2 i j k (Ne.symm e) hik hk)) (h1 j s hj))
  · by_cases e : j = i
    · by_cases e' : l = i
      · exact absurd (e.trans e'.symm) hjl
      · simp only [if_pos e, if_neg e']
        rintro (hk | hk) hl
        · exact h2 i l k (Ne.symm e') hk hl
        · have := (h3 l k hl).2; omega
    · by_cases e' : l = i
      · simp only [if_neg e, if_pos e']
        rintro hj (hk | hk)
        · exact h2 j i k e hj hk
        · have := (h3 j k hj).2; omega
      · simp only [if_neg e, if_neg e']
        exact h2 j l k hjl
  · by_cases e : j = i
    · simp only [if_pos e]
      rintro (hk | hk)
      · exact ⟨(h3 i k hk).1, Nat.lt_of_lt_of_le (h3 i k hk).2 ht.size⟩
      · exact ⟨Nat.le_trans h.below.size hk.1, hk.2⟩
    · simp only [if_neg e]
      exact fun hk => ⟨(h3 j k hk).1, Nat.lt_of_lt_of_le (h3 j k hk).2 ht.size⟩
/-- A new resource, out of blocks that weren't there. -/
theorem push (h : Sp w0 rs w) (hb : Below w.heap.size w w') (hr : r.P (fun k => w.heap.size ≤ k ∧ k < w'.heap.size) w') : Sp w0 (r :: rs) w' := by
  obtain ⟨F, h1, h2, h3⟩ := h.foot
  have hb0 : Below w0.heap.size w0 w' := (Turns.of_below (fp := fun _ => False) hb).below h.below (fun _ hk => hk.elim)
  refine ⟨hb0, fun j => match j with | 0 => (fun k => w.heap.size ≤ k ∧ k < w'.heap.size) | j + 1 => F j, fun j s hj => ?_, fun j l k hjl => ?_, fun j k => ?_⟩
  · cases j with
    | zero =>
      simp only [List.getElem?_cons_zero] at hj
      injection hj with hj
      subst hj
      exact hr
    | succ j =>
      simp only [List.getElem?_cons_succ] at hj
      exact s.mono (fun k hk => hk.1) (s.move (fun k hk hlt => hb.block k hlt) (h1 j s hj))
  · cases j with
    | zero =>
      cases l with
      | zero => exact absurd rfl hjl
      | succ l => intro hk hl; have := (h3 l k hl).2; omega
    | succ j =>
      cases l with
      | zero => intro hj hk; have := (h3 j k hj).2; omega
      | succ l => exact h2 j l k (fun e => hjl (by rw [e]))
  · cases j with
    | zero => exact fun hk => ⟨Nat.le_trans h.below.size hk.1, hk.2⟩
    | succ j => exact fun hk => ⟨(h3 j k hk).1, Nat.lt_of_lt_of_le (h3 j k hk).2 hb.size⟩
/-- Nothing that was there turns. -/
theorem far (h : Sp w0 rs w) (hb : Below w.heap.size w w') : Sp w0 rs w' := by
  obtain ⟨F, h1, h2, h3⟩ := h.foot
  exact ⟨(Turns.of_below (fp := fun _ => False) hb).below h.below (fun _ hk => hk.elim), F, fun i r hi => r.mono (fun k hk => hk.1) (r.move (fun k _ hlt => hb.block k hlt) (h1 i r hi)), h2, fun i k hk => ⟨(h3 i k hk).1, Nat.lt_of_lt_of_le (h3 i k hk).2 hb.size⟩⟩
theorem drew (h : Sp w0 rs w) : Sp w0 rs w.drew := h.far (below_drew (Below.refl _ _))
theorem drewN (h : Sp w0 rs w) (m : Nat) : Sp w0 rs (w.drewN m) := h.far (pw_below_drewN (Below.refl _ _) m)
theorem alloc (h : Sp w0 rs w) (o : Obj) : Sp w0 rs (w.alloc o) := h.far (below_alloc (Below.refl _ _) o)
/-- Some of them, in another order. -/
theorem pick (h : Sp w0 rs w) (f : Nat → Nat) (hf : ∀ i j, f i = f j → i = j) (he : ∀ i r, rs'[i]? = some r → rs[f i]? = some r) : Sp w0 rs' w := by
  obtain ⟨F, h1, h2, h3⟩ := h.foot
  exact ⟨h.below, fun i => F (f i), fun i r hi => h1 (f i) r (he i r hi), fun i j k hij => h2 (f i) (f j) k (fun e => hij (hf i j e)), fun i => h3 (f i)⟩
theorem tail (h : Sp w0 (r :: rs) w) : Sp w0 rs w := h.pick Nat.succ (fun _ _ e => Nat.succ.inj e) (fun i s hi => by simpa using hi)
theorem swap {a b : Res} (h : Sp w0 (a :: b :: rs) w) : Sp w0 (b :: a :: rs) w :=
  h.pick (fun i => if i = 0 then 1 else if i = 1 then 0 else i) (fun i j e => by split at e <;> split at e <;> (try split at e) <;> (try split at e) <;> omega) (fun i s hi => by
    match i, hi with
    | 0, hi => simpa using hi
    | 1, hi => simpa using hi
    | i + 2, hi => simpa using hi)
theorem front (h : Sp w0 rs w) (hi : rs[i]? = some r) : Sp w0 (r :: rs.eraseIdx i) w :=
  h.pick (fun j => if j = 0 then i else if j - 1 < i then j - 1 else j) (fun a b e => by (repeat' split at e) <;> omega) (fun j s hj => by
    cases j with
    | zero => simp only [List.getElem?_cons_zero] at hj; injection hj with hj; subst hj; simpa using hi
    | succ j =>
      simp only [List.getElem?_cons_succ, List.getElem?_eraseIdx] at hj
      simp only [Nat.add_sub_cancel, Nat.succ_ne_zero, if_false]
      by_cases e : j < i
      · rw [if_pos e] at hj ⊢; exact hj
      · rw [if_neg e] at hj ⊢; exact hj)
theorem out (h : Sp w0 rs w) (i : Nat) : Sp w0 (rs.eraseIdx i) w :=
  h.pick (fun j => if j < i then j else j + 1) (fun a b e => by (repeat' split at e) <;> omega) (fun j s hj => by
    rw [List.getElem?_eraseIdx] at hj
    split at hj
    · rename_i c; rw [if_pos c]; exact hj
    · rename_i c; rw [if_neg c]; exact hj)
/-- Seen otherwise. -/
theorem weak (h : Sp w0 rs w) (hi : rs[i]? = some r) (hr : ∀ fp : Nat → Prop, r.P fp w → r'.P fp w) : Sp w0 (rs.set i r') w :=
  h.upd hi (fun fp hp hb => ⟨Turns.of_below (Below.refl _ _), r'.mono (fun k hk => .inl hk) (hr fp hp)⟩)
end Sp
/-- A block of cells. -/
def Res.blk (g : Nat) (cs : Array Value) (t : Nat) : Res where
  P fp w := fp g ∧ w.heap[g]? = some (.cells cs t (0, 0))
  mono h p := ⟨h g p.1, p.2⟩
  move h p := ⟨⟨p.1, blk_lt p.2⟩, (h g p.1 (blk_lt p.2)).trans p.2⟩
/-- A row of the call's own. -/
def Res.row {α : Type} (d : Kd α) (e base : Nat) (v : Value) (xs : List α) : Res where
  P fp w := d.R e w base fp v xs
  mono h p := Kd.R_mono p h
  move h p := Kd.R_mono (Kd.R_move (Kd.R_bound p) (fun k hk => h k hk.1 hk.2.2.1)) (fun k hk => ⟨hk.1, hk.2.2.1⟩)
/-- Some resource of a family. -/
def Res.ex {α : Type} (R : α → Res) : Res where
  P fp w := ∃ a, (R a).P fp w
  mono h p := p.imp fun a q => (R a).mono h q
  move h p := p.imp fun a q => (R a).move h q
/-- A resource under a condition that is plain. -/
def Res.pure (c : Prop) : Res where
  P _ _ := c
  mono _ p := p
  move _ p := p
/-- Two of them, apart. -/
def Res.star (a b : Res) : Res where
  P fp w := ∃ f g : Nat → Prop, a.P f w ∧ b.P g w ∧ (∀ k, f k → ¬ g k) ∧ ∀ k, f k ∨ g k → fp k
  mono h p := by
    obtain ⟨f, g, h1, h2, h3, h4⟩ := p
    exact ⟨f, g, h1, h2, h3, fun k hk => h k (h4 k hk)⟩
  move := by
    intro fp w w' h p
    obtain ⟨f, g, h1, h2, h3, h4⟩ := p
    exact ⟨_, _, a.move (fun k hk hlt => h k (h4 k (.inl hk)) hlt) h1, b.move (fun k hk hlt => h k (h4 k (.inr hk)) hlt) h2, fun k hk hg => h3 k hk.1 hg.1, fun k hk => ⟨h4 k (hk.imp And.left And.left), hk.elim And.right And.right⟩⟩
namespace Sp
variable {w0 w w' : World} {rs rs' : List Res} {r r' : Res} {i : Nat}
theorem ex_open {α : Type} {R : α → Res} (h : Sp w0 rs w) (hi : rs[i]? = some (Res.ex R)) : ∃ a, Sp w0 (rs.set i (R a)) w := by
  obtain ⟨F, h1, h2, h3⟩ := h.foot
  obtain ⟨a, ha⟩ := h1 i _ hi
  refine ⟨a, h.below, F, fun j s hj => ?_, h2, h3⟩
  by_cases e : j = i
  · subst e
    rw [List.getElem?_set_self (List.getElem?_eq_some_iff.1 hi).1] at hj
    injection hj with hj
    subst hj
    exact ha
  · rw [List.getElem?_set_ne (Ne.symm e)] at hj
    exact h1 j s hj
theorem ex_close {α : Type} {R : α → Res} (a : α) (h : Sp w0 rs w) (hi : rs[i]? = some (R a)) : Sp w0 (rs.set i (Res.ex R)) w := h.weak hi (fun fp hp => ⟨a, hp⟩)
theorem star_open {a b : Res} (h : Sp w0 (Res.star a b :: rs) w) : Sp w0 (a :: b :: rs) w := by
  obtain ⟨F, h1, h2, h3⟩ := h.foot
  obtain ⟨f, g, ha, hb, hd, hs⟩ := h1 0 _ rfl
  refine ⟨h.below, fun j => match j with | 0 => f | 1 => g | j + 2 => F (j + 1), fun j s hj => ?_, fun j l k hjl => ?_, fun j k => ?_⟩
  · match j, hj with
    | 0, hj => simp at hj; subst hj; exact ha
    | 1, hj => simp at hj; subst hj; exact hb
    | j + 2, hj => exact h1 (j + 1) s (by simpa using hj)
  · match j, l with
    | 0, 0 => exact absurd rfl hjl
    | 1, 1 => exact absurd rfl hjl
    | 0, 1 => exact hd k
    | 1, 0 => exact fun h1 h2 => hd k h2 h1
    | 0, l + 2 => exact fun hk => h2 0 (l + 1) k (by omega) (hs k (.inl hk))
    | 1, l + 2 => exact fun hk => h2 0 (l + 1) k (by omega) (hs k (.inr hk))
    | j + 2, 0 => exact fun hk hl => h2 (j + 1) 0 k (by omega) hk (hs k (.inl hl))
    | j + 2, 1 => exact fun hk hl => h2 (j + 1) 0 k (by omega) hk (hs k (.inr hl))
    | j + 2, l + 2 => exact h2 (j + 1) (l + 1) k (by omega)
  · match j with
    | 0 => exact fun hk => h3 0 k (hs k (.inl hk))
    | 1 => exact fun hk => h3 0 k (hs k (.inr hk))
    | j + 2 => exact h3 (j + 1) k
theorem star_close {a b : Res} (h : Sp w0 (a :: b :: rs) w) : Sp w0 (Res.star a b :: rs) w := by
  obtain ⟨F, h1, h2, h3⟩ := h.foot
  refine ⟨h.below, fun j => match j with | 0 => (fun k => F 0 k ∨ F 1 k) | j + 1 => F (j + 2), fun j s hj => ?_, fun j l k hjl => ?_, fun j k => ?_⟩
  · match j, hj with
    | 0, hj => simp at hj; subst hj; exact ⟨F 0, F 1, h1 0 a rfl, h1 1 b rfl, fun k => h2 0 1 k (by omega), fun k hk => hk⟩
    | j + 1, hj => exact h1 (j + 2) s (by simpa using hj)
  · match j, l with
    | 0, 0 => exact absurd rfl hjl
    | 0, l + 1 => exact fun hk hl => hk.elim (fun hk => h2 0 (l + 2) k (by omega) hk hl) (fun hk => h2 1 (l + 2) k (by omega) hk hl)
    | j + 1, 0 => exact fun hk hl => hl.elim (fun hl => h2 (j + 2) 0 k (by omega) hk hl) (fun hl => h2 (j + 2) 1 k (by omega) hk hl)
    | j + 1, l + 1 => exact h2 (j + 2) (l + 2) k (by omega)
  · match j with
    | 0 => exact fun hk => hk.elim (h3 0 k) (h3 1 k)
    | j + 1 => exact h3 (j + 2) k
theorem blk (h : Sp w0 rs w) {g : Nat} {cs : Array Value} {t : Nat} (hi : rs[i]? = some (Res.blk g cs t)) : w.heap[g]? = some (.cells cs t (0, 0)) ∧ w0.heap.size ≤ g := by
  obtain ⟨fp, hp, hb⟩ := h.get hi
  exact ⟨hp.2, (hb g hp.1).1⟩
/-- A store into a block. -/
theorem set (h : Sp w0 rs w) {g : Nat} {cs cs' : Array Value} {t : Nat} (i : Nat) (hi : rs[i]? = some (Res.blk g cs t)) (j : Nat) (u : Value) (hcs : (w.setCell ⟨g, j, none⟩ u).heap[g]? = some (.cells cs' t (0, 0))) : Sp w0 (rs.set i (Res.blk g cs' t)) (w.setCell ⟨g, j, none⟩ u) :=
  h.upd hi (fun fp hp hb => ⟨Turns.set (p := ⟨g, j, none⟩) hp.1 u, .inl hp.1, hcs⟩)
/-- A new block. -/
theorem box (h : Sp w0 rs w) (cs : Array Value) (t : Nat) : Sp w0 (Res.blk w.heap.size cs t :: rs) (w.alloc (.cells cs t)) :=
  h.push (below_alloc (Below.refl _ _) _) ⟨⟨Nat.le_refl _, by simp⟩, blk_new w _⟩
/-- A row is opened: what it becomes in a step that turns its own block alone is put back. -/
theorem row (h : Sp w0 rs w) {α : Type} {d : Kd α} {e : Nat} {v : Value} {xs : List α} (hi : rs[i]? = some (Res.row d e w0.heap.size v xs)) :
    ∃ fp : Nat → Prop, d.R e w w0.heap.size (fun k => fp k ∨ w.heap.size ≤ k) v xs ∧ (∀ k, fp k → w0.heap.size ≤ k ∧ k < w.heap.size) ∧
      ∀ (w1 : World) (v1 : Value) (xs1 : List α), d.R e w1 w0.heap.size (fun k => fp k ∨ w.heap.size ≤ k) v1 xs1 → w.grownBy w1 v.ownBlock → Sp w0 (rs.set i (Res.row d e w0.heap.size v1 xs1)) w1 := by
  obtain ⟨F, h1, h2, h3⟩ := h.foot
  have hR : d.R e w w0.heap.size (F i) v xs := h1 i _ hi
  refine ⟨F i, Kd.R_mono hR (fun _ hk => .inl hk), h3 i, fun w1 v1 xs1 hR1 hg => ?_⟩
  have hs : Sp w0 rs w := ⟨h.below, F, h1, h2, h3⟩
  have ht : Turns (F i) w w1 := Turns.of_grown hg (fun k hk => hR.1 k hk)
  refine ⟨ht.below h.below (fun k hk => (h3 i k hk).1), fun j => if j = i then (fun k => F i k ∨ (w.heap.size ≤ k ∧ k < w1.heap.size)) else F j, fun j s hj => ?_, fun j l k hjl => ?_, fun j k => ?_⟩
  · by_cases e' : j = i
    · subst e'
      rw [List.getElem?_set_self (List.getElem?_eq_some_iff.1 hi).1] at hj
      injection hj with hj
      subst hj
      simp only [if_true]
      exact Kd.R_mono (Kd.R_bound hR1) (fun k hk => hk.1.imp_right (fun h4 => ⟨h4, hk.2.2.1⟩))
    · rw [List.getElem?_set_ne (Ne.symm e')] at hj
      simp only [if_neg e']
      exact s.mono (fun k hk => hk.1) (s.move (fun k hk hlt => ht.block k hlt (fun hik => h2 i j k (Ne.symm e') hik hk)) (h1 j s hj))
  · by_cases e' : j = i
    · by_cases e'' : l = i
      · exact absurd (e'.trans e''.symm) hjl
      · simp only [if_pos e', if_neg e'']
        rintro (hk | hk) hl
        · exact h2 i l k (Ne.symm e'') hk hl
        · have := (h3 l k hl).2; omega
    · by_cases e'' : l = i
      · simp only [if_neg e', if_pos e'']
        rintro hj (hk | hk)
        · exact h2 j i k e' hj hk
        · have := (h3 j k hj).2; omega
      · simp only [if_neg e', if_neg e'']
        exact h2 j l k hjl
  · by_cases e' : j = i
    · simp only [if_pos e']
      rintro (hk | hk)
      · exact ⟨(h3 i k hk).1, Nat.lt_of_lt_of_le (h3 i k hk).2 ht.size⟩
      · exact ⟨Nat.le_trans h.below.size hk.1, hk.2⟩
    · simp only [if_neg e']
      exact fun hk => ⟨(h3 j k hk).1, Nat.lt_of_lt_of_le (h3 j k hk).2 ht.size⟩
/-- A row that is made. -/
theorem made (h : Sp w0 rs w) {α : Type} {d : Kd α} {e : Nat} {v : Value} {xs : List α} (hb : Below w.heap.size w w') (hR : d.R e w' w0.heap.size (fun k => w.heap.size ≤ k) v xs) : Sp w0 (Res.row d e w0.heap.size v xs :: rs) w' :=
  h.push hb (Kd.R_mono (Kd.R_bound hR) (fun k hk => ⟨hk.1, hk.2.2.1⟩))
theorem made' (h : Sp w0 rs w) {α : Type} {d : Kd α} {e : Nat} {v : Value} {xs : List α} (hb : Below w.heap.size w w') (hR : d.R e w' w.heap.size (fun _ => True) v xs) : Sp w0 (Res.row d e w0.heap.size v xs :: rs) w' :=
  h.made hb (Kd.R_lower (Kd.R_mono (Kd.R_bound hR) (fun k hk => hk.2.1)) h.below.size)
theorem reads (h : Sp w0 rs w) {α : Type} {d : Kd α} {e base : Nat} {A : Option Addr} {n c : Nat} {xs : List α} (hi : rs[i]? = some (Res.row d e base (.slice A n c) xs)) : n = xs.length ∧ n ≤ c ∧ d.C w A xs.length xs := by
  obtain ⟨fp, hp, _⟩ := h.get hi
  exact Kd.R_reads' hp
theorem slice (h : Sp w0 rs w) {α : Type} {d : Kd α} {e base : Nat} {v : Value} {xs : List α} (hi : rs[i]? = some (Res.row d e base v xs)) : ∃ A c, v = .slice A xs.length c := by
  obtain ⟨fp, hp, _⟩ := h.get hi
  exact Kd.R_slice hp
/-- The row's beginning. -/
theorem take (h : Sp w0 rs w) {α : Type} {d : Kd α} {e base : Nat} {A : Option Addr} {n c : Nat} {xs : List α} (hi : rs[i]? = some (Res.row d e base (.slice A n c) xs)) (m : Nat) (hm : m ≤ xs.length) : Sp w0 (rs.set i (Res.row d e base (.slice A m c) (xs.take m))) w :=
  h.weak hi (fun fp hp => Kd.R_take hp hm)
/-- Two rows are opened: the second becomes a part of the first. -/
theorem row2 (h : Sp w0 rs w) {α β : Type} {d : Kd α} {d' : Kd β} {e e' base' : Nat} {v v' : Value} {xs : List α} {ys : List β} {j : Nat} (hij : i ≠ j) (hi : rs[i]? = some (Res.row d e w0.heap.size v xs)) (hj : rs[j]? = some (Res.row d' e' base' v' ys)) :
    ∃ fp gp : Nat → Prop, d.R e w w0.heap.size (fun k => fp k ∨ gp k ∨ w.heap.size ≤ k) v xs ∧ d'.R e' w base' gp v' ys ∧ (∀ k, gp k → some k ≠ v.ownBlock) ∧ (∀ k, fp k → w0.heap.size ≤ k ∧ k < w.heap.size) ∧ (∀ k, gp k → w0.heap.size ≤ k ∧ k < w.heap.size) ∧
      ∀ (w1 : World) (v1 : Value) (xs1 : List α), d.R e w1 w0.heap.size (fun k => fp k ∨ gp k ∨ w.heap.size ≤ k) v1 xs1 → w.grownBy w1 v.ownBlock → Sp w0 ((rs.set i (Res.row d e w0.heap.size v1 xs1)).eraseIdx j) w1 := by
  obtain ⟨F, h1, h2, h3⟩ := h.foot
  have hR : d.R e w w0.heap.size (F i) v xs := h1 i _ hi
  have hR' : d'.R e' w base' (F j) v' ys := h1 j _ hj
  refine ⟨F i, F j, Kd.R_mono hR (fun _ hk => .inl hk), hR', fun k hk he => h2 i j k hij (hR.1 k he.symm) hk, h3 i, h3 j, fun w1 v1 xs1 hR1 hg => ?_⟩
  have ht : Turns (F i) w w1 := Turns.of_grown hg (fun k hk => hR.1 k hk)
  refine ⟨ht.below h.below (fun k hk => (h3 i k hk).1), fun m => (fun q => if q = i then (fun k => F i k ∨ F j k ∨ (w.heap.size ≤ k ∧ k < w1.heap.size)) else F q) (if m < j then m else m + 1), fun m s hm => ?_, fun m l k hml => ?_, fun m k => ?_⟩
  · rw [List.getElem?_eraseIdx] at hm
    have hm' : (rs.set i (Res.row d e w0.heap.size v1 xs1))[if m < j then m else m + 1]? = some s := by
      split at hm
      · rename_i c; rw [if_pos c]; exact hm
      · rename_i c; rw [if_neg c]; exact hm
    obtain ⟨q, hq⟩ : ∃ q, q = if m < j then m else m + 1 := ⟨_, rfl⟩
    have hqj : q ≠ j := by rw [hq]; split <;> omega
    dsimp only
    rw [← hq] at hm' ⊢
    by_cases e' : q = i
    · subst e'
      rw [List.getElem?_set_self (List.getElem?_eq_some_iff.1 hi).1] at hm'
      injection hm' with hm'
      subst hm'
      simp only [if_true]
      exact Kd.R_mono (Kd.R_bound hR1) (fun k hk => hk.1.imp_right (fun h4 => h4.imp_right (fun h5 => ⟨h5, hk.2.2.1⟩)))
    · rw [List.getElem?_set_ne (Ne.symm e')] at hm'
      simp only [if_neg e']
      exact s.mono (fun k hk => hk.1) (s.move (fun k hk hlt => ht.block k hlt (fun hik => h2 i q k (Ne.symm e') hik hk)) (h1 q s hm'))
  · obtain ⟨q, hq⟩ : ∃ q, q = if m < j then m else m + 1 := ⟨_, rfl⟩
    obtain ⟨p, hp⟩ : ∃ p, p = if l < j then l else l + 1 := ⟨_, rfl⟩
    have hqj : q ≠ j := by rw [hq]; split <;> omega
    have hpj : p ≠ j := by rw [hp]; split <;> omega
    have hpq : q ≠ p := by rw [hq, hp]; (repeat' split) <;> omega
    dsimp only
    rw [← hq, ← hp]
    by_cases e' : q = i
    · by_cases e'' : p = i
      · exact absurd (e'.trans e''.symm) hpq
      · simp only [if_pos e', if_neg e'']
        rintro (hk | hk | hk) hl
        · exact h2 i p k (Ne.symm e'') hk hl
        · exact h2 j p k (Ne.symm hpj) hk hl
        · have := (h3 p k hl).2; omega
    · by_cases e'' : p = i
      · simp only [if_neg e', if_pos e'']
        rintro hl (hk | hk | hk)
        · exact h2 q i k e' hl hk
        · exact h2 q j k hqj hl hk
        · have := (h3 q k hl).2; omega
      · simp only [if_neg e', if_neg e'']
        exact h2 q p k hpq
  · obtain ⟨q, hq⟩ : ∃ q, q = if m < j then m else m + 1 := ⟨_, rfl⟩
    dsimp only
    rw [← hq]
    by_cases e' : q = i
    · simp only [if_pos e']
      rintro (hk | hk | hk)
      · exact ⟨(h3 i k hk).1, Nat.lt_of_lt_of_le (h3 i k hk).2 ht.size⟩
      · exact ⟨(h3 j k hk).1, Nat.lt_of_lt_of_le (h3 j k hk).2 ht.size⟩
      · exact ⟨Nat.le_trans h.below.size hk.1, hk.2⟩
    · simp only [if_neg e']
      exact fun hk => ⟨(h3 q k hk).1, Nat.lt_of_lt_of_le (h3 q k hk).2 ht.size⟩
def permOk (p : List Nat) (n : Nat) : Bool := p.length == n && p.all (· < n) && decide (p.Nodup)
/-- The first ones in another order. -/
theorem arr {pre pre' rest : List Res} (p : List Nat) (h : Sp w0 (pre ++ rest) w) (hp : permOk p pre.length = true) (he : p.map (fun j => pre[j]?) = pre'.map some) : Sp w0 (pre' ++ rest) w := by
  unfold permOk at hp
  simp only [Bool.and_eq_true, beq_iff_eq, List.all_eq_true, decide_eq_true_eq] at hp
  obtain ⟨⟨h1, h2⟩, h3⟩ := hp
  have hl : pre'.length = pre.length := by
    have := congrArg List.length he
    simp only [List.length_map] at this
    omega
  refine h.pick (fun i => if i < pre.length then p.getD i 0 else i) (fun i j e => ?_) (fun i r hi => ?_)
  · by_cases a : i < pre.length
    · by_cases b : j < pre.length
      · rw [if_pos a, if_pos b] at e
        have ha : i < p.length := by omega
        have hb : j < p.length := by omega
        simp only [List.getD_eq_getElem?_getD, List.getElem?_eq_getElem ha, List.getElem?_eq_getElem hb, Option.getD_some] at e
        exact (List.getElem_inj h3).1 e
      · rw [if_pos a, if_neg b] at e
        have ha : i < p.length := by omega
        have := h2 _ (List.getElem_mem ha)
        simp only [List.getD_eq_getElem?_getD, List.getElem?_eq_getElem ha, Option.getD_some] at e
        omega
    · by_cases b : j < pre.length
      · rw [if_neg a, if_pos b] at e
        have hb : j < p.length := by omega
        have := h2 _ (List.getElem_mem hb)
        simp only [List.getD_eq_getElem?_getD, List.getElem?_eq_getElem hb, Option.getD_some] at e
        omega
      · rw [if_neg a, if_neg b] at e
        exact e
  · by_cases a : i < pre.length
    · have ha : i < p.length := by omega
      have hlt := h2 _ (List.getElem_mem ha)
      rw [List.getElem?_append_left (by omega)] at hi
      simp only [if_pos a, List.getD_eq_getElem?_getD, List.getElem?_eq_getElem ha, Option.getD_some]
      rw [List.getElem?_append_left hlt]
      have := congrArg (fun l => l[i]?) he
      simp only [List.getElem?_map, List.getElem?_eq_getElem ha, hi, Option.map_some] at this
      exact Option.some.inj this
    · rw [List.getElem?_append_right (by omega), hl] at hi
      simp only [if_neg a]
      rw [List.getElem?_append_right (by omega)]
      exact hi
end Sp
end Go.Proofs.YtoglcgnbkibpgaaDoorW.PrintMore

/- Rows whose inner rows lie apart (Kd.S), as separate resources; a resource that is lent. -/
namespace Go.Proofs.YtoglcgnbkibpgaaDoorW.PrintMore
open Go.RowKit Go.Proofs.YtoglcgnbkibpgaaDoorW.PrintWords Go.Proofs.YtoglcgnbkibpgaaDoorW.PrintLast
set_option linter.unusedVariables false
/-- A row whose elements' inner rows lie apart. -/
def Res.rowS {α : Type} (d : Kd α) (e base : Nat) (v : Value) (xs : List α) : Res := Res.ex (fun f => Res.row (Kd.tag f d) e base v xs.zipIdx)
namespace Sp
variable {w0 w w' : World} {rs rs' : List Res} {r r' : Res} {i : Nat} {α : Type} {d : Kd α} {e base : Nat} {v : Value} {xs : List α}
/-- One resource is lent: what is done to its footprint is done to it alone. -/
theorem lend (h : Sp w0 rs w) (hi : rs[i]? = some r) : ∃ fp : Nat → Prop, r.P fp w ∧ (∀ k, fp k → w0.heap.size ≤ k ∧ k < w.heap.size) ∧ ∀ (w' : World) (r' : Res), Turns fp w w' → r'.P (fun k => fp k ∨ (w.heap.size ≤ k ∧ k < w'.heap.size)) w' → Sp w0 (rs.set i r') w' := by
  obtain ⟨F, h1, h2, h3⟩ := h.foot
  refine ⟨F i, h1 i r hi, h3 i, fun w' r' ht hr => ?_⟩
  refine ⟨ht.below h.below (fun k hk => (h3 i k hk).1), fun j => if j = i then (fun k => F i k ∨ (w.heap.size ≤ k ∧ k < w'.heap.size)) else F j, fun j s hj => ?_, fun j l k hjl => ?_, fun j k => ?_⟩
  · by_cases e : j = i
    · subst e
      have hl : j < rs.length := (List.getElem?_eq_some_iff.1 hi).1
      rw [List.getElem?_set_self hl] at hj
      injection hj with hj
      subst hj
      simpa using hr
    · rw [List.getElem?_set_ne (Ne.symm e)] at hj
      simp only [if_neg e]
      exact s.mono (fun k hk => hk.1) (s.move (fun k hk hlt => ht.block k hlt (fun hik => h2 i j k (Ne.symm e) hik hk)) (h1 j s hj))
  · by_cases e : j = i
    · by_cases e' : l = i
      · exact absurd (e.trans e'.symm) hjl
      · simp only [if_pos e, if_neg e']
        rintro (hk | hk) hl
        · exact h2 i l k (Ne.symm e') hk hl
        · have := (h3 l k hl).2; omega
    · by_cases e' : l = i
      · simp only [if_neg e, if_pos e']
        rintro hj (hk | hk)
        · exact h2 j i k e hj hk
        · have := (h3 j k hj).2; omega
      · simp only [if_neg e, if_neg e']
        exact h2 j l k hjl
  · by_cases e : j = i
    · simp only [if_pos e]
      rintro (hk | hk)
      · exact ⟨(h3 i k hk).1, Nat.lt_of_lt_of_le (h3 i k hk).2 ht.size⟩
      · exact ⟨Nat.le_trans h.below.size hk.1, hk.2⟩
    · simp only [if_neg e]
      exact fun hk => ⟨(h3 j k hk).1, Nat.lt_of_lt_of_le (h3 j k hk).2 ht.size⟩
theorem turns_of {fp : Nat → Prop} (hb : Below w0.heap.size w0 w) (hb' : Below w0.heap.size w0 w') (hk : Kept w w' fp) : Turns fp w w' :=
  ⟨hb'.os.trans hb.os.symm, hb'.tape.trans hb.tape.symm, hb'.output.trans hb.output.symm, hk.1, fun k h1 h2 => hk.2 k h1 h2⟩
/-- A row of rows that a call has made. -/
theorem madeS (h : Sp w0 rs w) (hb : Below w.heap.size w w') (hS : Kd.S d e w' w.heap.size (fun _ => True) v xs) : Sp w0 (Res.rowS d e w0.heap.size v xs :: rs) w' := by
  obtain ⟨f, hR⟩ := hS
  exact Sp.ex_close (R := fun f => Res.row (Kd.tag f d) e w0.heap.size v xs.zipIdx) f (Sp.made' h hb hR) (i := 0) rfl
theorem getS (h : Sp w0 rs w) (hi : rs[i]? = some (Res.rowS d e base v xs)) : ∃ fp : Nat → Prop, Kd.S d e w base fp v xs := by
  obtain ⟨fp, hp, _⟩ := h.get hi
  exact ⟨fp, hp⟩
theorem sliceS (h : Sp w0 rs w) (hi : rs[i]? = some (Res.rowS d e base v xs)) : ∃ A c, v = .slice A xs.length c := by
  obtain ⟨fp, hp⟩ := getS h hi
  exact Kd.S_slice hp
theorem readsS {A : Option Addr} {n c : Nat} (h : Sp w0 rs w) (hi : rs[i]? = some (Res.rowS d e base (.slice A n c) xs)) : n = xs.length ∧ n ≤ c ∧ d.C w A xs.length xs := by
  obtain ⟨fp, hp⟩ := getS h hi
  exact Kd.S_reads' hp
/-- A row of rows is written by a call (marks). -/
theorem markS (h : Sp w0 rs w) (hi : rs[i]? = some (Res.rowS d e w0.heap.size v xs)) : ∃ fp : Nat → Prop, Kd.S d e w w0.heap.size fp v xs ∧ ∀ (w' : World) (xs' : List α), Kd.S d e w' w0.heap.size (fun k => fp k ∨ w.heap.size ≤ k) v xs' → Below w0.heap.size w0 w' → Kept w w' fp → Sp w0 (rs.set i (Res.rowS d e w0.heap.size v xs')) w' := by
  obtain ⟨fp, hp, _, hc⟩ := lend h hi
  refine ⟨fp, hp, fun w' xs' hS hb hk => hc w' _ (turns_of h.below hb hk) ?_⟩
  obtain ⟨f, hR⟩ := hS
  exact ⟨f, Kd.R_mono (Kd.R_bound hR) (fun k hk => hk.1.imp_right (fun h4 => ⟨h4, hk.2.2.1⟩))⟩
end Sp
end Go.Proofs.YtoglcgnbkibpgaaDoorW.PrintMore

/- A row of one's own becomes an element of a row of rows (Kd.S), over separate resources. -/
namespace Go.Proofs.YtoglcgnbkibpgaaDoorW.PrintMore
open Go.RowKit Go.Proofs.YtoglcgnbkibpgaaDoorW.PrintWords Go.Proofs.YtoglcgnbkibpgaaDoorW.PrintLast
set_option linter.unusedVariables false
theorem Sp.joinS {w0 w : World} {rs : List Res} {α β : Type} {d : Kd α} {d' : Kd β} {e e' : Nat} {v v' : Value} {xs : List α} {ys : List β}
    (h : Sp w0 (Res.row d' e' w0.heap.size v' ys :: Res.rowS d e w0.heap.size v xs :: rs) w) :
    ∃ fp gp : Nat → Prop, d'.R e' w w0.heap.size gp v' ys ∧ Kd.S d e w w0.heap.size fp v xs ∧ (∀ k, gp k → ¬ fp k) ∧ (∀ k, fp k ∨ gp k → w0.heap.size ≤ k ∧ k < w.heap.size) ∧
      ∀ (w1 : World) (v1 : Value) (xs1 : List α), Kd.S d e w1 w0.heap.size (fun k => fp k ∨ gp k ∨ w.heap.size ≤ k) v1 xs1 → w.grownBy w1 v.ownBlock → Sp w0 (Res.rowS d e w0.heap.size v1 xs1 :: rs) w1 := by
  obtain ⟨fq, hp, hb, hc⟩ := Sp.lend (Sp.star_close h) (i := 0) rfl
  obtain ⟨gp, fp, hg, hs, hd, hi⟩ := hp
  obtain ⟨f, hs⟩ := hs
  refine ⟨fp, gp, hg, ⟨f, hs⟩, hd, fun k hk => hb k (hi k hk.symm), fun w1 v1 xs1 hS hgr => ?_⟩
  have ht : Turns fq w w1 := Turns.of_grown hgr (fun k hk => hi k (.inr (hs.1 k hk)))
  obtain ⟨f1, hS⟩ := hS
  refine hc w1 (Res.rowS d e w0.heap.size v1 xs1) ht ⟨f1, Kd.R_mono (Kd.R_bound hS) (fun k hk => ?_)⟩
  rcases hk.1 with h1 | h1 | h1
  · exact .inl (hi k (.inr h1))
  · exact .inl (hi k (.inl h1))
  · exact .inr ⟨h1, hk.2.2.1⟩
end Go.Proofs.YtoglcgnbkibpgaaDoorW.PrintMore

/- Plain words on rounds: loops over a list by its index, in 'from some number of rounds on' form. No program in sight. -/
namespace Go.Proofs.YtoglcgnbkibpgaaDoorW.PrintMore
open Go.RowKit Go.Proofs.YtoglcgnbkibpgaaDoorW.PrintWords
theorem wrap_succ (j : Nat) (h : j < 9223372036854775807) : wrap64 ((j : Int) + 1) = ((j + 1 : Nat) : Int) := by unfold wrap64; omega
theorem Ev.unfold {α : Type} {g f : Nat → Option α} {r : α} (h : ∀ k, g k = f k) (k : Ev f r) : Ev g r := Ev.congr h k
theorem Ev.succ {α : Type} {g : Nat → Option α} {r : α} (h : Ev (fun k => g (k + 1)) r) : Ev g r := Ev.step (fun _ => rfl) h
/-- Both, at one number of rounds. -/
theorem Ev.and' {α β : Type} {f : Nat → Option α} {g : Nat → Option β} {a : α} {b : β} (h : Ev f a) (k : Ev g b) : ∃ n, f n = some a ∧ g n = some b := by
  obtain ⟨K1, h1⟩ := h
  obtain ⟨K2, h2⟩ := k
  exact ⟨max K1 K2, h1 _ (Nat.le_max_left _ _), h2 _ (Nat.le_max_right _ _)⟩
/-- A loop over a list by its index: from place j on it comes to 'v' of its state and of what is left. -/
theorem ev_list {α σ β : Type} (xs : List α) (l : σ → Int → Nat → Option β) (v : σ → List α → β)
    (hd : ∀ s, Ev (l s (xs.length : Int)) (v s []))
    (hs : ∀ s (j : Nat) (h : j < xs.length), (∀ s', Ev (l s' ((j + 1 : Nat) : Int)) (v s' (xs.drop (j + 1)))) → Ev (l s (j : Int)) (v s (xs[j] :: xs.drop (j + 1)))) :
    ∀ (n j : Nat) (s : σ), j + n = xs.length → Ev (l s (j : Int)) (v s (xs.drop j)) := by
  intro n
  induction n with
  | zero =>
    intro j s h
    have : j = xs.length := by omega
    subst this
    rw [List.drop_length]
    exact hd s
  | succ n ih =>
    intro j s h
    have hj : j < xs.length := by omega
    rw [List.drop_eq_getElem_cons hj]
    exact hs s j hj (fun s' => ih (j + 1) s' (by omega))
theorem ev_list0 {α σ β : Type} (xs : List α) (l : σ → Int → Nat → Option β) (v : σ → List α → β)
    (hd : ∀ s, Ev (l s (xs.length : Int)) (v s []))
    (hs : ∀ s (j : Nat) (h : j < xs.length), (∀ s', Ev (l s' ((j + 1 : Nat) : Int)) (v s' (xs.drop (j + 1)))) → Ev (l s (j : Int)) (v s (xs[j] :: xs.drop (j + 1)))) (s : σ) :
    Ev (l s 0) (v s xs) := by
  have := ev_list xs l v hd hs xs.length 0 s (by omega)
  simpa using this
/-- The same with an invariant of the state and the place. -/
theorem ev_listI {α σ β : Type} (xs : List α) (I : σ → Nat → Prop) (l : σ → Int → Nat → Option β) (v : σ → List α → β)
    (hd : ∀ s, I s xs.length → Ev (l s (xs.length : Int)) (v s []))
    (hs : ∀ s (j : Nat) (h : j < xs.length), I s j → (∀ s', I s' (j + 1) → Ev (l s' ((j + 1 : Nat) : Int)) (v s' (xs.drop (j + 1)))) → Ev (l s (j : Int)) (v s (xs[j] :: xs.drop (j + 1)))) :
    ∀ (n j : Nat) (s : σ), j + n = xs.length → I s j → Ev (l s (j : Int)) (v s (xs.drop j)) := by
  intro n
  induction n with
  | zero =>
    intro j s h hi
    have : j = xs.length := by omega
    subst this
    rw [List.drop_length]
    exact hd s hi
  | succ n ih =>
    intro j s h hi
    have hj : j < xs.length := by omega
    rw [List.drop_eq_getElem_cons hj]
    exact hs s j hj hi (fun s' hi' => ih (j + 1) s' (by omega) hi')
/-- The same where the answer is known. -/
theorem ev_at {σ β : Type} (N : Nat) (I : σ → Nat → Prop) (r : β) (l : σ → Int → Nat → Option β)
    (hd : ∀ s, I s N → Ev (l s (N : Int)) r)
    (hs : ∀ s (j : Nat), j < N → I s j → ∃ s', I s' (j + 1) ∧ (Ev (l s' ((j + 1 : Nat) : Int)) r → Ev (l s (j : Int)) r))
    (s : σ) (h0 : I s 0) : Ev (l s 0) r := by
  have key : ∀ (n j : Nat) (s : σ), j + n = N → I s j → Ev (l s (j : Int)) r := by
    intro n
    induction n with
    | zero =>
      intro j s h hi
      have : j = N := by omega
      subst this
      exact hd s hi
    | succ n ih =>
      intro j s h hi
      obtain ⟨s', hi', h1⟩ := hs s j (by omega) hi
      exact h1 (ih (j + 1) s' (by omega) hi')
  exact key N 0 s (by omega) h0
theorem set_fill {α β : Type} (f : α → β) (z : β) (xs : List α) (j : Nat) (h : j < xs.length) :
    ((xs.take j).map f ++ List.replicate (xs.length - j) z).set j (f xs[j]) = (xs.take (j + 1)).map f ++ List.replicate (xs.length - (j + 1)) z := by
  have hl : ((xs.take j).map f).length = j := by simp; omega
  rw [List.set_append_right _ _ (by omega), hl, Nat.sub_self, List.take_succ_eq_append_getElem h, List.map_append, List.append_assoc]
  obtain ⟨m, hm⟩ : ∃ m, xs.length - j = m + 1 := ⟨xs.length - j - 1, by omega⟩
  rw [hm, show xs.length - (j + 1) = m from by omega, List.replicate_succ, List.set_cons_zero]
  rfl
theorem rd_nat (xs : List Int) (j : Nat) (h : j < xs.length) : rd xs (j : Int) = xs[j] := by unfold rd; simp [h]
theorem getD_nat {α : Type} (xs : List α) (d : α) (j : Nat) (h : j < xs.length) : xs.getD ((j : Int).toNat) d = xs[j] := by simp [h]
end Go.Proofs.YtoglcgnbkibpgaaDoorW.PrintMore

/- Searches through a tree of nodes with a limit on steps, in plain words: the reference's (it collects what it finds) and the program's (it calls a function with each). No program in sight. -/
namespace Go.Proofs.YtoglcgnbkibpgaaDoorW.Tree
set_option linter.unusedVariables false
structure VS (β : Type) where
  steps : Int
  found : List β
  over : Bool
structure LS (α : Type) where
  steps : Int
  ended : Bool
  broken : Bool
  a : α
variable {N N' α β : Type}
def stopV (most : Int) (s : VS β) : Bool := s.over || !decide ((s.found.length : Int) < most)
def stopL (s : LS α) : Bool := s.ended || s.broken
def foldV (most : Int) (visit : N → VS β → VS β) : List N → VS β → VS β
  | [], s => s
  | n :: ns, s => if stopV most s = true then s else foldV most visit ns (visit n s)
/-- A step of the reference's search, and those behind it. -/
def visitG (leaf : N → Option β) (kids : N → List N) (limit most : Int) : Nat → N → VS β → VS β
  | d, n, s => if s.steps + 1 > limit then ⟨s.steps + 1, s.found, true⟩ else
    match leaf n with
    | some b => ⟨s.steps + 1, s.found ++ [b], s.over⟩
    | none => match d with
      | 0 => ⟨s.steps + 1, s.found, s.over⟩
      | d + 1 => foldV most (visitG leaf kids limit most d) (kids n) ⟨s.steps + 1, s.found, s.over⟩
def foldL (sub : N → LS α → LS α) : List N → LS α → LS α
  | [], s => s
  | n :: ns, s => if stopL (sub n s) = true then sub n s else foldL sub ns (sub n s)
/-- A step of the program's search, and those behind it. -/
def fromG (leaf : N → Option β) (kids : N → List N) (limit : Int) (step : α → β → α × Bool) : Nat → N → LS α → LS α
  | d, n, s => if s.steps = limit then ⟨s.steps, s.ended, true, s.a⟩ else
    match leaf n with
    | some b => ⟨s.steps + 1, !(step s.a b).2, s.broken, (step s.a b).1⟩
    | none => match d with
      | 0 => ⟨s.steps + 1, s.ended, s.broken, s.a⟩
      | d + 1 => foldL (fromG leaf kids limit step d) (kids n) ⟨s.steps + 1, s.ended, s.broken, s.a⟩
theorem foldV_stop (most : Int) (visit : N → VS β → VS β) (ns : List N) (s : VS β) (h : stopV most s = true) : foldV most visit ns s = s := by
  cases ns with
  | nil => rfl
  | cons n ns => unfold foldV; rw [if_pos h]
theorem foldL_map (f : N' → N) (sub : N → LS α → LS α) (sub' : N' → LS α → LS α) : ∀ (ns : List N'), (∀ n ∈ ns, ∀ s, sub' n s = sub (f n) s) → ∀ s, foldL sub' ns s = foldL sub (ns.map f) s
  | [], _, s => rfl
  | n :: ns, h, s => by
    simp only [foldL, List.map_cons]
    rw [h n (by simp) s, foldL_map f sub sub' ns (fun m hm => h m (by simp [hm]))]
theorem fromG_map (f : N' → N) (I : N' → Prop) (leaf : N → Option β) (leaf' : N' → Option β) (kids : N → List N) (kids' : N' → List N') (limit : Int) (step : α → β → α × Bool)
    (hl : ∀ n, I n → leaf' n = leaf (f n)) (hk : ∀ n, I n → leaf' n = none → (kids' n).map f = kids (f n) ∧ ∀ m ∈ kids' n, I m) :
    ∀ (d : Nat) (n : N') (s : LS α), I n → fromG leaf' kids' limit step d n s = fromG leaf kids limit step d (f n) s
  | d, n, s, hi => by
    unfold fromG
    rw [hl n hi]
    split
    · rfl
    · cases hn : leaf (f n) with
      | some b => rfl
      | none =>
        cases d with
        | zero => rfl
        | succ d =>
          obtain ⟨h1, h2⟩ := hk n hi (by rw [hl n hi, hn])
          simp only
          rw [← h1]
          exact foldL_map f _ _ _ (fun m hm s => fromG_map f I leaf leaf' kids kids' limit step hl hk d m s (h2 m hm)) _
section
variable (leaf : N → Option β) (kids : N → List N) (limit most : Int) (step : α → β → α × Bool) (Rel : LS α → VS β → Prop)
variable (hstop : ∀ r s, Rel r s → stopL r = stopV most s)
include hstop
theorem fold_rel (sub : N → LS α → LS α) (visit : N → VS β → VS β) : ∀ (ns : List N), (∀ n ∈ ns, ∀ r s, Rel r s → stopL r = false → Rel (sub n r) (visit n s)) → ∀ r s, Rel r s → stopL r = false → Rel (foldL sub ns r) (foldV most visit ns s)
  | [], _, r, s, hr, _ => hr
  | n :: ns, h, r, s, hr, hs => by
    unfold foldL foldV
    rw [if_neg (show ¬ stopV most s = true by rw [← hstop r s hr, hs]; decide)]
    have h1 := h n (by simp) r s hr hs
    by_cases c : stopL (sub n r) = true
    · rw [if_pos c, foldV_stop most visit ns _ (by rw [← hstop _ _ h1]; exact c)]
      exact h1
    · rw [if_neg c]
      exact fold_rel sub visit ns (fun m hm => h m (by simp [hm])) _ _ h1 (Bool.eq_false_iff.mpr c)
theorem tree_rel
    (hsteps : ∀ r s, Rel r s → stopL r = false → r.steps = s.steps ∧ s.steps ≤ limit)
    (hlim : ∀ r s, Rel r s → stopL r = false → s.steps = limit → Rel ⟨r.steps, r.ended, true, r.a⟩ ⟨s.steps + 1, s.found, true⟩)
    (hleaf : ∀ r s b, Rel r s → stopL r = false → s.steps < limit → Rel ⟨r.steps + 1, !(step r.a b).2, r.broken, (step r.a b).1⟩ ⟨s.steps + 1, s.found ++ [b], s.over⟩)
    (hgo : ∀ r s, Rel r s → stopL r = false → s.steps < limit → Rel ⟨r.steps + 1, r.ended, r.broken, r.a⟩ ⟨s.steps + 1, s.found, s.over⟩) :
    ∀ (d : Nat) (n : N) (r : LS α) (s : VS β), Rel r s → stopL r = false → Rel (fromG leaf kids limit step d n r) (visitG leaf kids limit most d n s)
  | d, n, r, s, hr, hs => by
    obtain ⟨e, h1⟩ := hsteps r s hr hs
    unfold fromG visitG
    by_cases c : s.steps = limit
    · rw [if_pos (by rw [e]; exact c), if_pos (by omega)]
      exact hlim r s hr hs c
    · rw [if_neg (by rw [e]; exact c), if_neg (by omega)]
      cases leaf n with
      | some b => exact hleaf r s b hr hs (by omega)
      | none =>
        cases d with
        | zero => exact hgo r s hr hs (by omega)
        | succ d =>
          exact fold_rel most Rel hstop _ _ (kids n) (fun m _ r s hr hs => tree_rel hsteps hlim hleaf hgo d m r s hr hs) _ _ (hgo r s hr hs (by omega)) (by unfold stopL at hs ⊢; exact hs)
end
/-- What stays small. -/
def okV (limit : Int) (s : VS β) : Prop := 0 ≤ s.steps ∧ s.steps ≤ limit + 1 ∧ (s.found.length : Int) ≤ s.steps ∧ (s.over = false → s.steps ≤ limit)
theorem notstop {r : LS α} (h : stopL r = false) : r.ended = false ∧ r.broken = false := by unfold stopL at h; simpa using h
/-- A function that never stops the search: it has been called with all that is found. -/
def relA (limit : Int) (step : α → β → α × Bool) (a0 : α) (r : LS α) (s : VS β) : Prop :=
  r.broken = s.over ∧ r.ended = false ∧ okV limit s ∧ (s.over = false → r.steps = s.steps) ∧ r.a = s.found.foldl (fun a b => (step a b).1) a0
theorem all_rel (leaf : N → Option β) (kids : N → List N) (limit : Int) (step : α → β → α × Bool) (a0 : α) (hstep : ∀ a b, (step a b).2 = true) (hl : 0 ≤ limit) (d : Nat) (n : N) :
    relA limit step a0 (fromG leaf kids limit step d n ⟨0, false, false, a0⟩) (visitG leaf kids limit (limit + 1) d n ⟨0, [], false⟩) := by
  refine tree_rel leaf kids limit (limit + 1) step (relA limit step a0) ?_ ?_ ?_ ?_ ?_ d n _ _ ⟨rfl, rfl, ⟨Int.le_refl _, by dsimp only; omega, by simp, fun _ => hl⟩, fun _ => rfl, rfl⟩ rfl
  · rintro r s ⟨h1, h2, h3, h4, h5⟩
    unfold stopL stopV
    rw [h2, h1]
    cases ho : s.over with
    | true => rfl
    | false =>
      have h6 := h3.2.2.2 ho
      have h7 := h3.2.2.1
      have e : decide ((s.found.length : Int) < limit + 1) = true := decide_eq_true (by omega)
      rw [e]
      rfl
  · rintro r s ⟨h1, h2, h3, h4, h5⟩ hs
    have ho : s.over = false := by rw [← h1]; exact (notstop hs).2
    exact ⟨h4 ho, h3.2.2.2 ho⟩
  · rintro r s ⟨h1, h2, h3, h4, h5⟩ hs hc
    obtain ⟨k1, k2, k3, k4⟩ := h3
    exact ⟨rfl, h2, ⟨by dsimp only; omega, by dsimp only; omega, by dsimp only; omega, fun hf => Bool.noConfusion hf⟩, fun hf => Bool.noConfusion hf, h5⟩
  · rintro r s b ⟨h1, h2, h3, h4, h5⟩ hs hc
    have ho : s.over = false := by rw [← h1]; exact (notstop hs).2
    obtain ⟨k1, k2, k3, k4⟩ := h3
    refine ⟨h1, by dsimp only; rw [hstep]; rfl, ⟨by dsimp only; omega, by dsimp only; omega, ?_, fun _ => by dsimp only; omega⟩, fun _ => by dsimp only; rw [h4 ho], ?_⟩
    · simp only [List.length_append, List.length_singleton]; omega
    · simp only [List.foldl_append, List.foldl_cons, List.foldl_nil, h5]
  · rintro r s ⟨h1, h2, h3, h4, h5⟩ hs hc
    have ho : s.over = false := by rw [← h1]; exact (notstop hs).2
    obtain ⟨k1, k2, k3, k4⟩ := h3
    exact ⟨h1, h2, ⟨by dsimp only; omega, by dsimp only; omega, by dsimp only; omega, fun _ => by dsimp only; omega⟩, fun _ => by dsimp only; rw [h4 ho], h5⟩
theorem foldV_ind (most : Int) (visit : N → VS β → VS β) (p : VS β → Prop) : ∀ (ns : List N), (∀ n ∈ ns, ∀ s, p s → p (visit n s)) → ∀ s, p s → p (foldV most visit ns s)
  | [], _, s, hs => hs
  | n :: ns, h, s, hs => by
    unfold foldV
    split
    · exact hs
    · exact foldV_ind most visit p ns (fun m hm => h m (by simp [hm])) _ (h n (by simp) s hs)
/-- All that is found is good, where the nodes are. -/
theorem found_good (leaf : N → Option β) (kids : N → List N) (limit most : Int) (I : N → Prop) (G : β → Prop) (hl : ∀ n b, I n → leaf n = some b → G b) (hk : ∀ n, I n → leaf n = none → ∀ m ∈ kids n, I m) :
    ∀ (d : Nat) (n : N) (s : VS β), I n → (∀ b ∈ s.found, G b) → ∀ b ∈ (visitG leaf kids limit most d n s).found, G b
  | d, n, s, hi, hs => by
    unfold visitG
    split
    · exact hs
    · cases hn : leaf n with
      | some b =>
        intro c hc
        simp only [List.mem_append, List.mem_singleton] at hc
        rcases hc with hc | rfl
        · exact hs c hc
        · exact hl n c hi hn
      | none =>
        cases d with
        | zero => exact hs
        | succ d => exact foldV_ind most _ (fun s => ∀ b ∈ s.found, G b) (kids n) (fun m hm s hs => found_good leaf kids limit most I G hl hk d m s (hk n hi hn m hm) hs) _ hs
theorem foldV_ind2 (most : Int) (visit : N → VS β → VS β) (p : VS β → Prop) : ∀ (ns : List N), (∀ n ∈ ns, ∀ s, p s → stopV most s = false → p (visit n s)) → ∀ s, p s → p (foldV most visit ns s)
  | [], _, s, hs => hs
  | n :: ns, h, s, hs => by
    unfold foldV
    split
    · exact hs
    · rename_i c
      exact foldV_ind2 most visit p ns (fun m hm => h m (by simp [hm])) _ (h n (by simp) s hs (Bool.eq_false_iff.mpr c))
theorem stopV_over {most : Int} {s : VS β} (h : stopV most s = false) : s.over = false ∧ (s.found.length : Int) < most := by
  unfold stopV at h
  simpa using h
theorem visit_ok (leaf : N → Option β) (kids : N → List N) (limit most : Int) : ∀ (d : Nat) (n : N) (s : VS β), okV limit s → s.over = false → okV limit (visitG leaf kids limit most d n s)
  | d, n, s, hk, ho => by
    obtain ⟨k1, k2, k3, k4⟩ := hk
    have h6 := k4 ho
    unfold visitG
    by_cases c : s.steps + 1 > limit
    · rw [if_pos c]
      exact ⟨by dsimp only; omega, by dsimp only; omega, by dsimp only; omega, fun hf => Bool.noConfusion hf⟩
    · rw [if_neg c]
      cases leaf n with
      | some b =>
        refine ⟨by dsimp only; omega, by dsimp only; omega, ?_, fun _ => by dsimp only; omega⟩
        simp only [List.length_append, List.length_singleton]
        omega
      | none =>
        cases d with
        | zero => exact ⟨by dsimp only; omega, by dsimp only; omega, by dsimp only; omega, fun _ => by dsimp only; omega⟩
        | succ d => exact foldV_ind2 most _ (okV limit) (kids n) (fun m _ s hs hst => visit_ok leaf kids limit most d m s hs (stopV_over hst).1) _ ⟨by dsimp only; omega, by dsimp only; omega, by dsimp only; omega, fun _ => by dsimp only; omega⟩
end Go.Proofs.YtoglcgnbkibpgaaDoorW.Tree

/- Exact covers in plain words: the reference's search over lists of columns and the program's over masks. No program in sight. -/
namespace Go.Proofs.YtoglcgnbkibpgaaDoorW.Cov
open Go.Proofs.YtoglcgnbkibpgaaDoorW.Tree
set_option linter.unusedVariables false
set_option linter.unusedSimpArgs false
set_option linter.unusedSectionVars false
def rwAt (rows : List (List Int)) (i : Int) : List Int := rows.getD i.toNat []
/-- Is a column in a row of the sequence? -/
def cov (rows : List (List Int)) (seq : List Int) (k : Int) : Bool := seq.any fun i => (rwAt rows i).contains k
def openR (rows : List (List Int)) (seq : List Int) (r : List Int) : Bool := r.all fun k => !cov rows seq k
/-- The open rows with a column. -/
def openRows (rows : List (List Int)) (seq : List Int) (col : Int) : List Int :=
  ((List.range rows.length).filter fun j => (rows.getD j []).contains col && openR rows seq (rows.getD j [])).map fun (j : Nat) => (j : Int)
def colStep (rows : List (List Int)) (seq : List Int) (b : Int × Nat) (k : Nat) : Int × Nat :=
  if cov rows seq k = true then b else if b.1 < 0 ∨ (openRows rows seq k).length < b.2 then ((k : Int), (openRows rows seq k).length) else b
/-- The column that the search takes, or -1. -/
def colV (rows : List (List Int)) (Q : Nat) (seq : List Int) : Int := ((List.range Q).foldl (colStep rows seq) (-1, 0)).1
def leafC (rows : List (List Int)) (Q : Nat) (seq : List Int) : Option (List Int) := if colV rows Q seq < 0 then some seq else none
def kidsC (rows : List (List Int)) (Q : Nat) (seq : List Int) : List (List Int) := (openRows rows seq (colV rows Q seq)).map fun j => seq ++ [j]
def maskOf (r : List Int) : Nat := r.foldl (fun m k => m ||| 2 ^ k.toNat) 0
theorem foldl_or (r : List Int) (m k : Nat) : (r.foldl (fun m x => m ||| 2 ^ x.toNat) m).testBit k = (m.testBit k || r.any fun x => x.toNat == k) := by
  induction r generalizing m with
  | nil => simp
  | cons x r ih =>
    rw [List.foldl_cons, ih, Nat.testBit_or, Nat.testBit_two_pow, List.any_cons, Bool.or_assoc]
    rfl
theorem maskOf_bit (r : List Int) (k : Nat) : (maskOf r).testBit k = r.any fun x => x.toNat == k := by
  unfold maskOf
  rw [foldl_or]
  simp
theorem maskOf_has (r : List Int) (hr : ∀ x ∈ r, 0 ≤ x) (k : Nat) : (maskOf r).testBit k = r.contains (k : Int) := by
  rw [maskOf_bit, Bool.eq_iff_iff, List.any_eq_true, List.contains_iff_mem]
  constructor
  · rintro ⟨x, hx, e⟩
    have h0 := hr x hx
    have e' : x.toNat = k := by simpa using e
    have : x = (k : Int) := by omega
    exact this ▸ hx
  · intro hx
    exact ⟨_, hx, by simp⟩
theorem maskOf_lt (r : List Int) (C : Nat) (hr : ∀ x ∈ r, 0 ≤ x ∧ x < (C : Int)) : maskOf r < 2 ^ C := by
  apply Nat.lt_pow_two_of_testBit
  intro i hi
  rw [maskOf_has r (fun x hx => (hr x hx).1), Bool.eq_false_iff]
  intro h
  rw [List.contains_iff_mem] at h
  have := (hr _ h).2
  omega
/-- How many open rows have a required column. -/
def cntM (masks : List Nat) (req cv : Nat) (k : Nat) : Nat := (masks.filter fun m => m &&& cv == 0 && (m &&& req).testBit k).length
def bestStep (masks : List Nat) (req cv : Nat) (b : Int) (k : Nat) : Int := if b < 0 ∨ cntM masks req cv k < cntM masks req cv b.toNat then (k : Int) else b
def bitsOf (n : Nat) : List Nat := (List.range 64).filter fun k => n.testBit k
def bestM (masks : List Nat) (req cv : Nat) : Int := (bitsOf (req ^^^ (req &&& cv))).foldl (bestStep masks req cv) (-1)
def leafM (masks : List Nat) (req : Nat) (n : Nat × List Int) : Option (List Int) := if bestM masks req n.1 < 0 then some n.2 else none
def takesM (masks : List Nat) (cv : Nat) (col : Int) (i : Nat) : Bool := (masks.getD i 0).testBit col.toNat && (masks.getD i 0 &&& cv == 0)
def kidsM (masks : List Nat) (req : Nat) (n : Nat × List Int) : List (Nat × List Int) := ((List.range masks.length).filter (takesM masks n.1 (bestM masks req n.1))).map fun i => (n.1 ||| masks.getD i 0, n.2 ++ [(i : Int)])
structure Inst (rows : List (List Int)) (C Q : Nat) : Prop where
  ins : ∀ r ∈ rows, ∀ x ∈ r, 0 ≤ x ∧ x < (C : Int)
  c60 : C ≤ 60
  qc : Q ≤ C
/-- The mask says what the sequence covers. -/
def Says (rows : List (List Int)) (C : Nat) (n : Nat × List Int) : Prop := n.1 < 2 ^ C ∧ ∀ k : Nat, n.1.testBit k = cov rows n.2 k
theorem range_filter {α : Type} (p : α → Bool) (d : α) (l : List α) : ((List.range l.length).filter fun j => p (l.getD j d)).length = (l.filter p).length := by
  induction l with
  | nil => rfl
  | cons a l ih =>
    rw [List.length_cons, List.range_succ_eq_map, List.filter_cons, List.filter_cons]
    have e : (List.filter (fun j => p ((a :: l).getD j d)) (List.map Nat.succ (List.range l.length))).length = (l.filter p).length := by
      rw [List.filter_map, List.length_map]
      exact ih
    have e0 : (a :: l).getD 0 d = a := rfl
    rw [e0]
    split
    · rw [List.length_cons, List.length_cons, e]
    · exact e
theorem and_zero (a b : Nat) : (a &&& b == 0) = true ↔ ∀ k, ¬ (a.testBit k = true ∧ b.testBit k = true) := by
  rw [beq_iff_eq]
  constructor
  · intro h k ⟨h1, h2⟩
    have : (a &&& b).testBit k = true := by rw [Nat.testBit_and, h1, h2]; rfl
    rw [h, Nat.zero_testBit] at this
    cases this
  · intro h
    apply Nat.eq_of_testBit_eq
    intro k
    rw [Nat.testBit_and, Nat.zero_testBit]
    cases ha : a.testBit k
    · rfl
    · cases hb : b.testBit k
      · rfl
      · exact absurd ⟨ha, hb⟩ (h k)
section
variable {rows : List (List Int)} {C Q : Nat} (hI : Inst rows C Q)
include hI
theorem row_ins (j : Nat) : ∀ x ∈ rows.getD j [], 0 ≤ x ∧ x < (C : Int) := by
  intro x hx
  by_cases c : j < rows.length
  · have e : rows.getD j [] = rows[j] := by simp [c]
    rw [e] at hx
    exact hI.ins _ (List.getElem_mem c) x hx
  · have e : rows.getD j [] = [] := by rw [List.getD_eq_getElem?_getD, List.getElem?_eq_none (by omega)]; rfl
    rw [e] at hx
    simp at hx
theorem open_mask {n : Nat × List Int} (hs : Says rows C n) (r : List Int) (hr : ∀ x ∈ r, 0 ≤ x ∧ x < (C : Int)) : (maskOf r &&& n.1 == 0) = openR rows n.2 r := by
  rw [Bool.eq_iff_iff, and_zero]
  unfold openR
  rw [List.all_eq_true]
  constructor
  · intro h x hx
    have h0 := (hr x hx).1
    have e : ((x.toNat : Nat) : Int) = x := by omega
    have := h x.toNat
    rw [maskOf_has r (fun x hx => (hr x hx).1), hs.2, e] at this
    rw [Bool.not_eq_true', Bool.eq_false_iff]
    exact fun hc => this ⟨List.contains_iff_mem.2 hx, hc⟩
  · rintro h k ⟨h1, h2⟩
    rw [maskOf_has r (fun x hx => (hr x hx).1), List.contains_iff_mem] at h1
    have := h _ h1
    rw [← hs.2, h2] at this
    cases this
theorem getD_map (j : Nat) : (rows.map maskOf).getD j 0 = maskOf (rows.getD j []) := by
  simp only [List.getD_eq_getElem?_getD, List.getElem?_map]
  cases rows[j]? with
  | none => rfl
  | some r => rfl
theorem req_bit (k : Nat) : (2 ^ Q - 1).testBit k = decide (k < Q) := by rw [Nat.testBit_two_pow_sub_one]
theorem cnt_open {n : Nat × List Int} (hs : Says rows C n) (k : Nat) (hk : k < Q) : cntM (rows.map maskOf) (2 ^ Q - 1) n.1 k = (openRows rows n.2 k).length := by
  unfold cntM openRows
  rw [List.length_map, List.filter_map, List.length_map]
  have := range_filter (fun r => r.contains (k : Int) && openR rows n.2 r) [] rows
  rw [this]
  congr 1
  apply List.filter_congr
  intro r hr
  have hin := hI.ins r hr
  simp only [Function.comp]
  rw [open_mask hI hs r hin, Nat.testBit_and, maskOf_has r (fun x hx => (hin x hx).1), req_bit hI, decide_eq_true hk, Bool.and_true, Bool.and_comm]
theorem best_col {n : Nat × List Int} (hs : Says rows C n) : bestM (rows.map maskOf) (2 ^ Q - 1) n.1 = colV rows Q n.2 := by
  have hQ : Q ≤ 64 := by have := hI.c60; have := hI.qc; omega
  have eb : bitsOf ((2 ^ Q - 1) ^^^ ((2 ^ Q - 1) &&& n.1)) = (List.range Q).filter fun k : Nat => !cov rows n.2 k := by
    unfold bitsOf
    obtain ⟨m, hm⟩ : ∃ m, 64 = Q + m := ⟨64 - Q, by omega⟩
    rw [hm, List.range_add, List.filter_append]
    have e2 : List.filter (fun k => ((2 ^ Q - 1) ^^^ ((2 ^ Q - 1) &&& n.1)).testBit k) (List.map (fun x => Q + x) (List.range m)) = [] := by
      rw [List.filter_eq_nil_iff]
      intro k hk
      rw [List.mem_map] at hk
      obtain ⟨x, _, rfl⟩ := hk
      rw [Nat.testBit_xor, Nat.testBit_and, req_bit hI, decide_eq_false (by omega)]
      simp
    rw [e2, List.append_nil]
    apply List.filter_congr
    intro k hk
    have hk' : k < Q := by simpa using hk
    rw [Nat.testBit_xor, Nat.testBit_and, req_bit hI, decide_eq_true hk', hs.2]
    simp
  unfold bestM colV
  rw [eb]
  have key : ∀ (ks : List Nat) (b : Int × Nat), (∀ k ∈ ks, k < Q) → (0 ≤ b.1 → b.1 < (Q : Int) ∧ b.2 = (openRows rows n.2 b.1).length) → ((ks.filter fun k : Nat => !cov rows n.2 k).foldl (bestStep (rows.map maskOf) (2 ^ Q - 1) n.1) b.1) = (ks.foldl (colStep rows n.2) b).1 := by
    intro ks
    induction ks with
    | nil => intro b _ _; rfl
    | cons k ks ih =>
      intro b hk hb
      have hk0 := hk k (by simp)
      rw [List.filter_cons, List.foldl_cons]
      cases hc : cov rows n.2 (k : Int) with
      | true =>
        simp only [Bool.not_true, Bool.false_eq_true, if_false]
        have e : colStep rows n.2 b k = b := by unfold colStep; rw [if_pos hc]
        rw [e]
        exact ih b (fun m hm => hk m (by simp [hm])) hb
      | false =>
        simp only [Bool.not_false, if_true, List.foldl_cons]
        have e : bestStep (rows.map maskOf) (2 ^ Q - 1) n.1 b.1 k = (colStep rows n.2 b k).1 := by
          unfold colStep
          rw [if_neg (by rw [hc]; decide)]
          unfold bestStep
          rw [cnt_open hI hs k hk0]
          by_cases h0 : b.1 < 0
          · rw [if_pos (.inl h0), if_pos (.inl h0)]
          · obtain ⟨h1, h2⟩ := hb (by omega)
            have e1 : ((b.1.toNat : Nat) : Int) = b.1 := by omega
            rw [cnt_open hI hs b.1.toNat (by omega), e1, h2]
            split <;> rfl
        rw [e]
        refine ih (colStep rows n.2 b k) (fun m hm => hk m (by simp [hm])) (fun h => ?_)
        unfold colStep at h ⊢
        rw [if_neg (by rw [hc]; decide)] at h ⊢
        split
        · exact ⟨by dsimp only; omega, rfl⟩
        · rename_i hn
          rw [if_neg hn] at h
          exact hb h
  exact key (List.range Q) (-1, 0) (fun k hk => by simpa using hk) (fun h => absurd h (by decide))
theorem cov_snoc (seq : List Int) (j k : Int) : cov rows (seq ++ [j]) k = (cov rows seq k || (rwAt rows j).contains k) := by
  unfold cov
  simp [List.any_append]
theorem says_next {n : Nat × List Int} (hs : Says rows C n) (i : Nat) : Says rows C (n.1 ||| (rows.map maskOf).getD i 0, n.2 ++ [(i : Int)]) := by
  have hin := row_ins hI i
  refine ⟨?_, fun k => ?_⟩
  · rw [getD_map hI]
    exact Nat.or_lt_two_pow hs.1 (maskOf_lt _ C hin)
  · show (n.1 ||| (rows.map maskOf).getD i 0).testBit k = _
    rw [Nat.testBit_or, hs.2, getD_map hI, maskOf_has _ (fun x hx => (hin x hx).1), cov_snoc hI]
    simp [rwAt]
theorem leaf_same {n : Nat × List Int} (hs : Says rows C n) : leafM (rows.map maskOf) (2 ^ Q - 1) n = leafC rows Q n.2 := by
  unfold leafM leafC
  rw [best_col hI hs]
theorem kids_same {n : Nat × List Int} (hs : Says rows C n) (hl : leafM (rows.map maskOf) (2 ^ Q - 1) n = none) : (kidsM (rows.map maskOf) (2 ^ Q - 1) n).map Prod.snd = kidsC rows Q n.2 ∧ ∀ m ∈ kidsM (rows.map maskOf) (2 ^ Q - 1) n, Says rows C m := by
  have h0 : 0 ≤ colV rows Q n.2 := by
    unfold leafM at hl
    rw [best_col hI hs] at hl
    split at hl
    · cases hl
    · omega
  constructor
  · unfold kidsM kidsC openRows
    rw [best_col hI hs, List.map_map, List.map_map, List.length_map]
    have e : List.filter (takesM (rows.map maskOf) n.1 (colV rows Q n.2)) (List.range rows.length) = List.filter (fun j => (rows.getD j []).contains (colV rows Q n.2) && openR rows n.2 (rows.getD j [])) (List.range rows.length) := by
      apply List.filter_congr
      intro j _
      have hin := row_ins hI j
      unfold takesM
      rw [getD_map hI, maskOf_has _ (fun x hx => (hin x hx).1), open_mask hI hs _ hin]
      congr 2
      omega
    rw [e]
    rfl
  · intro m hm
    unfold kidsM at hm
    rw [List.mem_map] at hm
    obtain ⟨i, _, rfl⟩ := hm
    exact says_next hI hs i
/-- The program's search is the search over sequences. -/
theorem from_same {α : Type} (limit : Int) (step : α → List Int → α × Bool) (d : Nat) (s : LS α) : fromG (leafM (rows.map maskOf) (2 ^ Q - 1)) (kidsM (rows.map maskOf) (2 ^ Q - 1)) limit step d (0, []) s = fromG (leafC rows Q) (kidsC rows Q) limit step d [] s :=
  fromG_map Prod.snd (Says rows C) _ _ _ _ limit step (fun n hs => leaf_same hI hs) (fun n hs hl => kids_same hI hs hl) d (0, []) s ⟨Nat.two_pow_pos C, fun k => by simp [cov]⟩
end
end Go.Proofs.YtoglcgnbkibpgaaDoorW.Cov

namespace Go.Proofs.YtoglcgnbkibpgaaDoor.A
open Go.RowKit Go.Proofs.YtoglcgnbkibpgaaDoorW.PrintWords Go.Proofs.YtoglcgnbkibpgaaDoorW.PrintLast Go.Proofs.YtoglcgnbkibpgaaDoorW.PrintMore
attribute [local go_sem] max2_int min2_int max_two min_two max_three min_three max_four min_four   -- for this text's walks alone
set_option linter.unusedVariables false
set_option linter.unusedSimpArgs false
def errW : Option Int → Value
  | none => .nilIface
  | some c => .iface 0 (.int .i64 c)
theorem errW_none : errW none = .nilIface := rfl
theorem errW_some (c : Int) : errW (some c) = .iface 0 (.int .i64 c) := rfl
theorem info2 : (Tryd.prog.info? 2).map (fun i => (i.zero, i.size, i.bytes)) = some (some (.int .i64 0), 1, 8) := by kernel_rfl
theorem info32 : (Tryd.prog.info? 32).map (fun i => (i.zero, i.size, i.bytes)) = some (some (.slice none 0 0), 1, 24) := by kernel_rfl
def rd_L1 (xs : List (List Int)) (i : Int) : (List Int) := xs.getD i.toNat ([] : List Int)
theorem at_L1 {w : World} {A : Option Addr} {n : Nat} {xs : List (List Int)} (h : Kd.C (Kd.slice 2 (Kd.int .i64)) w A n xs) (i : Int) (h0 : 0 ≤ i) (h1 : i < n) : ∃ ad A0 c0, A = some ad ∧ w.cell? (ad.add i.toNat) = some (.slice A0 (rd_L1 xs i).length c0) ∧ (rd_L1 xs i).length ≤ c0 ∧ (Kd.int .i64).C w A0 (rd_L1 xs i).length (rd_L1 xs i) := by
  obtain ⟨ad, c, e, _, hK, hc0⟩ := Kd.C_get h ([] : List Int) i h0 h1
  have hc : ∀ j u, c[j]? = some u → w.cell? (ad.add (i.toNat * 1 + j)) = some u := hc0
  obtain ⟨A0, c0, rfl, l0, g0⟩ := hK
  exact ⟨ad, A0, c0, e, by have hq := hc 0 _ rfl; rwa [Nat.mul_one, Nat.add_zero] at hq, l0, g0⟩
end Go.Proofs.YtoglcgnbkibpgaaDoor.A

namespace Go.Proofs.YtoglcgnbkibpgaaDoor.A
open Go.RowKit Go.Proofs.YtoglcgnbkibpgaaDoorW.PrintWords Go.Proofs.YtoglcgnbkibpgaaDoorW.PrintLast Go.Proofs.YtoglcgnbkibpgaaDoorW.PrintMore
attribute [local go_sem] max2_int min2_int max_two min_two max_three min_three max_four min_four   -- for this text's walks alone
set_option linter.unusedVariables false
set_option linter.unusedSimpArgs false
mutual
def spec_l13Counts.l0 : Nat → List Int → List Int → Int → Int → Int → List (List Int) → Option (List Int)
  | 0, _, _, _, _, _, _ => none
  | k + 1, x1, x5, x6, x116000, x116001, x116002 => if x6 < (x1.length : Int) then (if 0 ≤ x6 then (if 0 ≤ (rd x1 x6) then (if (rd x1 x6) < (x116002.length : Int) then (spec_l13Counts.l1 k x1 x5 x6 (rd_L1 x116002 (rd x1 x6)) 0 x116000 x116001 x116002) else (none)) else (none)) else (none)) else (some x5)
def spec_l13Counts.l1 : Nat → List Int → List Int → Int → List Int → Int → Int → Int → List (List Int) → Option (List Int)
  | 0, _, _, _, _, _, _, _, _ => none
  | k + 1, x1, x5, x6, x7, x8, x116000, x116001, x116002 => if x8 < (x7.length : Int) then (if 0 ≤ x8 then (if 0 ≤ (rd x7 x8) then (if (rd x7 x8) < (x5.length : Int) then (spec_l13Counts.l1 k x1 (x5.set ((rd x7 x8) : Int).toNat (wrap64 ((rd x5 (rd x7 x8)) + 1))) x6 x7 (wrap64 (x8 + 1)) x116000 x116001 x116002) else (none)) else (none)) else (none)) else (spec_l13Counts.l0 k x1 x5 (wrap64 (x6 + 1)) x116000 x116001 x116002)
end
def spec_l13Counts.f (k : Nat) (a0_0 : Int) (a0_1 : Int) (l0_2 : List (List Int)) (l1 : List Int) : Option (List Int) := if 0 ≤ a0_0 then (if (a0_0 : Int).toNat ≤ 35184372088832 then (spec_l13Counts.l0 k l1 (List.replicate (a0_0 : Int).toNat 0) 0 a0_0 a0_1 l0_2) else (none)) else (none)
set_option maxHeartbeats 8000000 in
set_option maxRecDepth 100000 in
theorem spec_l13Counts.calls (k : Nat) (a0_0 : Int) (a0_1 : Int) (A0_2 : Option Addr) (c0_2 : Nat) (l0_2 : List (List Int)) (A1 : Option Addr) (c1 : Nat) (l1 : List Int) (r : List Int) (w : World) (hr0_2 : Kd.C (Kd.slice 2 (Kd.int .i64)) w A0_2 l0_2.length l0_2) (hc0_2 : l0_2.length ≤ c0_2) (hr1 : Kd.C (Kd.int .i64) w A1 l1.length l1) (hc1 : l1.length ≤ c1) (h : spec_l13Counts.f k a0_0 a0_1 l0_2 l1 = some r) :
    Calls Tryd.prog 85 #[.agg #[.int .i64 a0_0, .int .i64 a0_1, .slice A0_2 l0_2.length c0_2], .slice A1 l1.length c1] w fun e w' => ∃ v0_ : Value, e = .returned (v0_) ∧ Kd.R (Kd.int .i64) 2 w' w.heap.size (fun _ => True) v0_ r ∧ Below w.heap.size w w' := by
 (have hu28 := Tryd.underlying28); (have HR0_2 := A0_ hr0_2); (have HC0_2 := A0_ hc0_2); clear hr0_2 hc0_2; (have HR1 := A0_ hr1); (have HC1 := A0_ hc1); clear hr1 hc1; (have HB := A0_ (Below.refl w.heap.size w)); (have H : (if 0 ≤ a0_0 then (if (a0_0 : Int).toNat ≤ 35184372088832 then (spec_l13Counts.l0 k l1 (List.replicate (a0_0 : Int).toNat 0) 0 a0_0 a0_1 l0_2) else (none)) else (none)) = some r := h); clear h; (by_cases c3 : 0 ≤ a0_0)
 ·(rw [if_pos c3] at H); (have c3b0 := eq_true c3); (have c3b1 : decide (0 ≤ a0_0) = true := decide_eq_true c3); clear c3; (by_cases c4 : (a0_0 : Int).toNat ≤ 35184372088832)
  ·(rw [if_pos c4] at H); (have c4b0 := eq_true c4); (have c4b1 : decide ((a0_0 : Int).toNat ≤ 35184372088832) = true := decide_eq_true c4); clear c4; (obtain ⟨y116, hy116⟩ : ∃ y_ : List Int, y_ = (List.replicate (a0_0 : Int).toNat 0) := ⟨_, rfl⟩); (replace H : (spec_l13Counts.l0 k l1 y116 0 a0_0 a0_1 l0_2) = some r := by first | (rw [hy116]; with_reducible exact H) | (have H2_ := (Option.bind_some _ _).symm.trans H; rw [hy116]; with_reducible exact H2_) | (have H2_ := (Option.bind_some _ _).symm.trans H; with_reducible exact H2_) | with_reducible exact H | (rw [hy116]; exact H) | exact H); (have Ny116 := A0_ hy116); clear hy116; (have H' := A0_ H); clear H; (go_enter Tryd.func85, Tryd.ntmps85)
   go_wp2_with (first | ((with_reducible refine gate_dst (N := 2) rfl ?_); refine box_event ?hg (N := 2) ?hd (cs := #[.int .i64 a0_0, .int .i64 a0_1, .slice A0_2 l0_2.length c0_2]) (t := 28) ?hr ?_; (case hd => rfl); (case hg => rfl); (case hr => first | (go_simp; done) | (go_simp; rfl)); intro gb115 hg w5 hbox hb; have n0_ := A0_ (below_step (by repeat (first | (with_reducible first | exact HB.out | apply ba_ | apply bn_ | apply bd_) | exact HB.out)) hb); have n1_ := A0_ (hbox); have n2_ := A0_ ((by rw [hg]; exact (below_size (by repeat (first | (with_reducible first | exact HB.out | apply ba_ | apply bn_ | apply bd_) | exact HB.out))) : w.heap.size ≤ gb115)); have n3_ := A0_ ((by rw [hg]; exact (below_size (by repeat (first | (with_reducible first | exact HB.out | apply ba_ | apply bn_ | apply bd_) | exact HB.out))) : w.heap.size ≤ gb115)); clear HB; have HB := n0_; have BK115 := n1_; have GW115 := n2_; have GE115 := n3_; clear n0_ n1_ n2_ n3_; clear hb hbox hg; have hcz6_0 : w5.cell? ⟨gb115, 0, none⟩ = some (.int .i64 a0_0) := (blk_cell BK115.out 0).trans rfl; have hcz6_1 : w5.cell? ⟨gb115, 1, none⟩ = some (.int .i64 a0_1) := (blk_cell BK115.out 1).trans rfl; have hcz6_2 : w5.cell? ⟨gb115, 2, none⟩ = some (.slice A0_2 l0_2.length c0_2) := (blk_cell BK115.out 2).trans rfl; have hfz6_0 := blk_frozen BK115.out 0; have hfz6_1 := blk_frozen BK115.out 1; have hfz6_2 := blk_frozen BK115.out 2) | ((with_reducible refine gate_dst (N := 11) rfl ?_); refine Kd.R_make (Kd.int .i64) _ 2 rfl (N := 11) rfl 32 _ _ rfl a0_0 rfl rfl Tryd.underlying32 (.int .i64 0) 8 info2 rfl (by decide) (by omega) 0 (ok := fun _ => True) (okp := fun _ => True) rfl (fun _ hk => hk) trivial (of_decide_eq_true (by first | (with_reducible assumption) | assumption)) (Nat.le_trans (Nat.mul_le_mul_right _ (of_decide_eq_true (by first | (with_reducible assumption) | assumption) : a0_0.toNat ≤ 35184372088832)) (by omega)) (Below.refl _ _) (Nat.le_refl _) ?_; intro v117 w7 ho8 hb hg_ hnew_; clear hg_ hnew_; (first | rw [← Ny116.out] at ho8 | (simp only [Int.reduceToNat] at ho8; rw [← Ny116.out] at ho8)); have n0_ := A0_ (Kd.R_lower ho8 (below_size (by repeat (first | (with_reducible first | exact HB.out | apply ba_ | apply bn_ | apply bd_ | refine below_set ?_ GE115.out) | exact HB.out)))); have n1_ := A0_ (blk_below (g := gb115) (o := .cells #[.int .i64 a0_0, .int .i64 a0_1, .slice A0_2 l0_2.length c0_2] 28 (0, 0)) (by (with_reducible repeat (first | apply gn_ | apply gd_ | apply ga_)); exact BK115.out) hb); have n2_ := A0_ (below_step (by repeat (first | (with_reducible first | exact HB.out | apply ba_ | apply bn_ | apply bd_ | refine below_set ?_ GE115.out) | exact HB.out)) hb); clear BK115; clear HB; have HO118 := n0_; have BK115 := n1_; have HB := n2_; clear n0_ n1_ n2_; clear hb ho8))
   repeat (go_quiet (first | ((with_reducible refine gate_dst (N := 2) rfl ?_); refine box_event ?hg (N := 2) ?hd (cs := #[.int .i64 a0_0, .int .i64 a0_1, .slice A0_2 l0_2.length c0_2]) (t := 28) ?hr ?_; (case hd => rfl); (case hg => rfl); (case hr => first | (go_simp; done) | (go_simp; rfl)); intro gb115 hg w5 hbox hb; have n0_ := A0_ (below_step (by repeat (first | (with_reducible first | exact HB.out | apply ba_ | apply bn_ | apply bd_) | exact HB.out)) hb); have n1_ := A0_ (hbox); have n2_ := A0_ ((by rw [hg]; exact (below_size (by repeat (first | (with_reducible first | exact HB.out | apply ba_ | apply bn_ | apply bd_) | exact HB.out))) : w.heap.size ≤ gb115)); have n3_ := A0_ ((by rw [hg]; exact (below_size (by repeat (first | (with_reducible first | exact HB.out | apply ba_ | apply bn_ | apply bd_) | exact HB.out))) : w.heap.size ≤ gb115)); clear HB; have HB := n0_; have BK115 := n1_; have GW115 := n2_; have GE115 := n3_; clear n0_ n1_ n2_ n3_; clear hb hbox hg; have hcz6_0 : w5.cell? ⟨gb115, 0, none⟩ = some (.int .i64 a0_0) := (blk_cell BK115.out 0).trans rfl; have hcz6_1 : w5.cell? ⟨gb115, 1, none⟩ = some (.int .i64 a0_1) := (blk_cell BK115.out 1).trans rfl; have hcz6_2 : w5.cell? ⟨gb115, 2, none⟩ = some (.slice A0_2 l0_2.length c0_2) := (blk_cell BK115.out 2).trans rfl; have hfz6_0 := blk_frozen BK115.out 0; have hfz6_1 := blk_frozen BK115.out 1; have hfz6_2 := blk_frozen BK115.out 2) | ((with_reducible refine gate_dst (N := 11) rfl ?_); refine Kd.R_make (Kd.int .i64) _ 2 rfl (N := 11) rfl 32 _ _ rfl a0_0 rfl rfl Tryd.underlying32 (.int .i64 0) 8 info2 rfl (by decide) (by omega) 0 (ok := fun _ => True) (okp := fun _ => True) rfl (fun _ hk => hk) trivial (of_decide_eq_true (by first | (with_reducible assumption) | assumption)) (Nat.le_trans (Nat.mul_le_mul_right _ (of_decide_eq_true (by first | (with_reducible assumption) | assumption) : a0_0.toNat ≤ 35184372088832)) (by omega)) (Below.refl _ _) (Nat.le_refl _) ?_; intro v117 w7 ho8 hb hg_ hnew_; clear hg_ hnew_; (first | rw [← Ny116.out] at ho8 | (simp only [Int.reduceToNat] at ho8; rw [← Ny116.out] at ho8)); have n0_ := A0_ (Kd.R_lower ho8 (below_size (by repeat (first | (with_reducible first | exact HB.out | apply ba_ | apply bn_ | apply bd_ | refine below_set ?_ GE115.out) | exact HB.out)))); have n1_ := A0_ (blk_below (g := gb115) (o := .cells #[.int .i64 a0_0, .int .i64 a0_1, .slice A0_2 l0_2.length c0_2] 28 (0, 0)) (by (with_reducible repeat (first | apply gn_ | apply gd_ | apply ga_)); exact BK115.out) hb); have n2_ := A0_ (below_step (by repeat (first | (with_reducible first | exact HB.out | apply ba_ | apply bn_ | apply bd_ | refine below_set ?_ GE115.out) | exact HB.out)) hb); clear BK115; clear HB; have HO118 := n0_; have BK115 := n1_; have HB := n2_; clear n0_ n1_ n2_; clear hb ho8)); try go_wp2_with (first | ((with_reducible refine gate_dst (N := 2) rfl ?_); refine box_event ?hg (N := 2) ?hd (cs := #[.int .i64 a0_0, .int .i64 a0_1, .slice A0_2 l0_2.length c0_2]) (t := 28) ?hr ?_; (case hd => rfl); (case hg => rfl); (case hr => first | (go_simp; done) | (go_simp; rfl)); intro gb115 hg w5 hbox hb; have n0_ := A0_ (below_step (by repeat (first | (with_reducible first | exact HB.out | apply ba_ | apply bn_ | apply bd_) | exact HB.out)) hb); have n1_ := A0_ (hbox); have n2_ := A0_ ((by rw [hg]; exact (below_size (by repeat (first | (with_reducible first | exact HB.out | apply ba_ | apply bn_ | apply bd_) | exact HB.out))) : w.heap.size ≤ gb115)); have n3_ := A0_ ((by rw [hg]; exact (below_size (by repeat (first | (with_reducible first | exact HB.out | apply ba_ | apply bn_ | apply bd_) | exact HB.out))) : w.heap.size ≤ gb115)); clear HB; have HB := n0_; have BK115 := n1_; have GW115 := n2_; have GE115 := n3_; clear n0_ n1_ n2_ n3_; clear hb hbox hg; have hcz6_0 : w5.cell? ⟨gb115, 0, none⟩ = some (.int .i64 a0_0) := (blk_cell BK115.out 0).trans rfl; have hcz6_1 : w5.cell? ⟨gb115, 1, none⟩ = some (.int .i64 a0_1) := (blk_cell BK115.out 1).trans rfl; have hcz6_2 : w5.cell? ⟨gb115, 2, none⟩ = some (.slice A0_2 l0_2.length c0_2) := (blk_cell BK115.out 2).trans rfl; have hfz6_0 := blk_frozen BK115.out 0; have hfz6_1 := blk_frozen BK115.out 1; have hfz6_2 := blk_frozen BK115.out 2) | ((with_reducible refine gate_dst (N := 11) rfl ?_); refine Kd.R_make (Kd.int .i64) _ 2 rfl (N := 11) rfl 32 _ _ rfl a0_0 rfl rfl Tryd.underlying32 (.int .i64 0) 8 info2 rfl (by decide) (by omega) 0 (ok := fun _ => True) (okp := fun _ => True) rfl (fun _ hk => hk) trivial (of_decide_eq_true (by first | (with_reducible assumption) | assumption)) (Nat.le_trans (Nat.mul_le_mul_right _ (of_decide_eq_true (by first | (with_reducible assumption) | assumption) : a0_0.toNat ≤ 35184372088832)) (by omega)) (Below.refl _ _) (Nat.le_refl _) ?_; intro v117 w7 ho8 hb hg_ hnew_; clear hg_ hnew_; (first | rw [← Ny116.out] at ho8 | (simp only [Int.reduceToNat] at ho8; rw [← Ny116.out] at ho8)); have n0_ := A0_ (Kd.R_lower ho8 (below_size (by repeat (first | (with_reducible first | exact HB.out | apply ba_ | apply bn_ | apply bd_ | refine below_set ?_ GE115.out) | exact HB.out)))); have n1_ := A0_ (blk_below (g := gb115) (o := .cells #[.int .i64 a0_0, .int .i64 a0_1, .slice A0_2 l0_2.length c0_2] 28 (0, 0)) (by (with_reducible repeat (first | apply gn_ | apply gd_ | apply ga_)); exact BK115.out) hb); have n2_ := A0_ (below_step (by repeat (first | (with_reducible first | exact HB.out | apply ba_ | apply bn_ | apply bd_ | refine below_set ?_ GE115.out) | exact HB.out)) hb); clear BK115; clear HB; have HO118 := n0_; have BK115 := n1_; have HB := n2_; clear n0_ n1_ n2_; clear hb ho8)))
   go_loopg [6] k (fun kq v6 w' => ∃ (x5_1 : List Int) (x6_1 : Int), v6 = .int .i64 x6_1 ∧ Aside0 (spec_l13Counts.l0 kq l1 x5_1 x6_1 a0_0 a0_1 l0_2 = some r) ∧ Aside0 (kq ≤ k) ∧ Aside0 (Kd.R (Kd.int .i64) 2 w' w.heap.size (fun _ => True) v117 x5_1) ∧ Aside0 (w'.heap[gb115]? = some (.cells #[.int .i64 a0_0, .int .i64 a0_1, (.slice A0_2 l0_2.length c0_2)] 28 (0, 0))) ∧ Aside0 (Below w.heap.size w w'))
   case atStart => exact ⟨(y116), (0), (by first | rfl | (simp; done) | (simp [*]; done)), H', ⟨Nat.le_refl _⟩, ⟨by (with_reducible repeat (first | apply Ra_ | apply Rn_ | apply Rd_)); exact HO118.out⟩, ⟨by (with_reducible repeat (first | apply gn_ | apply gd_ | apply ga_)); exact BK115.out⟩, ⟨by repeat (first | (with_reducible first | exact HB.out | apply ba_ | apply bn_ | apply bd_ | refine below_set ?_ GE115.out) | exact HB.out)⟩⟩
   case round =>
    clear H'; (try clear c1); (try clear p2); (try clear c3); (try clear c3b0); (try clear c3b1); (try clear c4); (try clear c4b0); (try clear c4b1); (try clear c8); (try clear hcz6_0 hcz6_1 hcz6_2); (try clear hfz6_0 hfz6_1 hfz6_2); (obtain ⟨x5_1, x6_1, rfl, HA, HK1, HO_5, BK115, HB⟩ := hrel)
    cases gk with
    | zero => exact absurd HA.out (by simp [spec_l13Counts.l0])
    | succ k1 =>
     (have H := HA.out); clear HA; (simp only [spec_l13Counts.l0] at H); (by_cases c9 : x6_1 < (l1.length : Int))
     ·(rw [if_pos c9] at H); (have c9b0 : decide (x6_1 < (l1.length : Int)) = true := decide_eq_true c9); clear c9; (by_cases c10 : 0 ≤ x6_1)
      ·(rw [if_pos c10] at H); (have c10b0 : decide (0 ≤ x6_1) = true := decide_eq_true c10); clear c10; (by_cases c11 : 0 ≤ (rd l1 x6_1))
       ·(rw [if_pos c11] at H); (have c11b0 : decide (0 ≤ (rd l1 x6_1)) = true := decide_eq_true c11); clear c11; (by_cases c12 : (rd l1 x6_1) < (l0_2.length : Int))
        ·(rw [if_pos c12] at H); (have c12b0 : decide ((rd l1 x6_1) < (l0_2.length : Int)) = true := decide_eq_true c12); clear c12; (have H' := A0_ H); clear H; (have hcz13_0 : wr.cell? ⟨gb115, 0, none⟩ = some (.int .i64 a0_0) := (blk_cell BK115.out 0).trans rfl); (have hcz13_1 : wr.cell? ⟨gb115, 1, none⟩ = some (.int .i64 a0_1) := (blk_cell BK115.out 1).trans rfl); (have hcz13_2 : wr.cell? ⟨gb115, 2, none⟩ = some (.slice A0_2 l0_2.length c0_2) := (blk_cell BK115.out 2).trans rfl); (have hfz13_0 := blk_frozen BK115.out 0); (have hfz13_1 := blk_frozen BK115.out 1); (have hfz13_2 := blk_frozen BK115.out 2); (have p119 : 0 ≤ (x6_1 : Int) := of_decide_eq_true (by first | (with_reducible assumption) | assumption)); (have q119 : x6_1 < (l1.length : Int) := of_decide_eq_true (by first | (with_reducible assumption) | assumption)); (obtain ⟨ad119, e119, hx119_0⟩ := Kd.at_int HR1.out x6_1 p119 q119); (cases e119); (replace hx119_0 := (HB.out.cell (World.block_lt_of_cell? w _ hx119_0)).trans hx119_0); (replace p119 := eq_true p119); (replace q119 := eq_true q119); (have p120 : 0 ≤ ((rd l1 x6_1) : Int) := of_decide_eq_true (by first | (with_reducible assumption) | assumption)); (have q120 : (rd l1 x6_1) < (l0_2.length : Int) := of_decide_eq_true (by first | (with_reducible assumption) | assumption)); (obtain ⟨ad120, A120_0, c120_0, e120, hx120_0, hl120_0, hi120_0⟩ := at_L1 HR0_2.out (rd l1 x6_1) p120 q120); (cases e120); (replace hx120_0 := (HB.out.cell (World.block_lt_of_cell? w _ hx120_0)).trans hx120_0); (have HR120_0 := A0_ hi120_0); (have HC120_0 := A0_ hl120_0); clear hi120_0 hl120_0; (replace p120 := eq_true p120); (replace q120 := eq_true q120); go_wp2; (repeat (go_quiet (fail); try go_wp2))
         go_loopg [8] k1 (fun kq v8 w' => ∃ (x5_2 : List Int) (x8_2 : Int), v8 = .int .i64 x8_2 ∧ Aside0 (spec_l13Counts.l1 kq l1 x5_2 x6_1 (rd_L1 l0_2 (rd l1 x6_1)) x8_2 a0_0 a0_1 l0_2 = some r) ∧ Aside0 (kq ≤ k1) ∧ Aside0 (Kd.R (Kd.int .i64) 2 w' w.heap.size (fun _ => True) v117 x5_2) ∧ Aside0 (w'.heap[gb115]? = some (.cells #[.int .i64 a0_0, .int .i64 a0_1, (.slice (some ad120) l0_2.length c0_2)] 28 (0, 0))) ∧ Aside0 (Below w.heap.size w w'))
         case atStart => exact ⟨(x5_1), (0), (by first | rfl | (simp; done) | (simp [*]; done)), H', ⟨Nat.le_refl _⟩, ⟨by (with_reducible repeat (first | apply Ra_ | apply Rn_ | apply Rd_)); exact HO_5.out⟩, ⟨by (with_reducible repeat (first | apply gn_ | apply gd_ | apply ga_)); exact BK115.out⟩, ⟨by repeat (first | (with_reducible first | exact HB.out | apply ba_ | apply bn_ | apply bd_ | refine below_set ?_ GE115.out) | exact HB.out)⟩⟩
         case round =>
          clear H'; (try clear c1); (try clear p1); (try clear q1); (try clear hx1); (try clear p2); (try clear c3); (try clear c3b0); (try clear c3b1); (try clear c4); (try clear c4b0); (try clear c4b1); (try clear c8); (try clear c9); (try clear c9b0); (try clear c10); (try clear c10b0); (try clear c11); (try clear c11b0); (try clear p11); (try clear q11); (try clear hx11); (try clear c12); (try clear c12b0); (try clear p12); (try clear q12); (try clear hx12); (try clear hcz13_0 hcz13_1 hcz13_2); (try clear hcz6_0 hcz6_1 hcz6_2); (try clear hfz13_0 hfz13_1 hfz13_2); (try clear hfz6_0 hfz6_1 hfz6_2); (try clear hx119_0); (try clear hx120_0); (try clear p119); (try clear p120); (try clear p2); (try clear q119); (try clear q120); (obtain ⟨x5_2, x8_2, rfl, HA, HK2, HO_5, BK115, HB⟩ := hrel)
          cases gk with
          | zero => exact absurd HA.out (by simp [spec_l13Counts.l1])
          | succ k2 =>
           (have H := HA.out); clear HA; (simp only [spec_l13Counts.l1] at H); (by_cases c14 : x8_2 < ((rd_L1 l0_2 (rd l1 x6_1)).length : Int))
           ·(rw [if_pos c14] at H); (have c14b0 : decide (x8_2 < ((rd_L1 l0_2 (rd l1 x6_1)).length : Int)) = true := decide_eq_true c14); clear c14; (by_cases c15 : 0 ≤ x8_2)
            ·(rw [if_pos c15] at H); (have c15b0 : decide (0 ≤ x8_2) = true := decide_eq_true c15); clear c15; (by_cases c16 : 0 ≤ (rd (rd_L1 l0_2 (rd l1 x6_1)) x8_2))
             ·(rw [if_pos c16] at H); (have c16b0 : decide (0 ≤ (rd (rd_L1 l0_2 (rd l1 x6_1)) x8_2)) = true := decide_eq_true c16); clear c16; (by_cases c17 : (rd (rd_L1 l0_2 (rd l1 x6_1)) x8_2) < (x5_2.length : Int))
              ·(rw [if_pos c17] at H); (have c17b0 : decide ((rd (rd_L1 l0_2 (rd l1 x6_1)) x8_2) < (x5_2.length : Int)) = true := decide_eq_true c17); clear c17; (obtain ⟨y123, hy123⟩ : ∃ y_ : List Int, y_ = (x5_2.set ((rd (rd_L1 l0_2 (rd l1 x6_1)) x8_2) : Int).toNat (wrap64 ((rd x5_2 (rd (rd_L1 l0_2 (rd l1 x6_1)) x8_2)) + 1))) := ⟨_, rfl⟩); (replace H : (spec_l13Counts.l1 k2 l1 y123 x6_1 (rd_L1 l0_2 (rd l1 x6_1)) (wrap64 (x8_2 + 1)) a0_0 a0_1 l0_2) = some r := by first | (rw [hy123]; with_reducible exact H) | (have H2_ := (Option.bind_some _ _).symm.trans H; rw [hy123]; with_reducible exact H2_) | (have H2_ := (Option.bind_some _ _).symm.trans H; with_reducible exact H2_) | with_reducible exact H | (rw [hy123]; exact H) | exact H); (have Ny123 := A0_ hy123); clear hy123; (have H' := A0_ H); clear H; (have p121 : 0 ≤ (x8_2 : Int) := of_decide_eq_true (by first | (with_reducible assumption) | assumption)); (have q121 : x8_2 < ((rd_L1 l0_2 (rd l1 x6_1)).length : Int) := of_decide_eq_true (by first | (with_reducible assumption) | assumption)); (obtain ⟨ad121, e121, hx121_0⟩ := Kd.at_int HR120_0.out x8_2 p121 q121); (cases e121); (replace hx121_0 := (HB.out.cell (World.block_lt_of_cell? w _ hx121_0)).trans hx121_0); (replace p121 := eq_true p121); (replace q121 := eq_true q121); (obtain ⟨Ao19, co19, eo19⟩ := Kd.R_slice HO_5.out); subst eo19; (have p122 : 0 ≤ ((rd (rd_L1 l0_2 (rd l1 x6_1)) x8_2) : Int) := of_decide_eq_true (by first | (with_reducible assumption) | assumption)); (have q122 : (rd (rd_L1 l0_2 (rd l1 x6_1)) x8_2) < (x5_2.length : Int) := of_decide_eq_true (by first | (with_reducible assumption) | assumption)); (obtain ⟨ad122, e122, hx122_0⟩ := Kd.at_int (Kd.R_reads' HO_5.out).2.2 (rd (rd_L1 l0_2 (rd l1 x6_1)) x8_2) p122 q122); (cases e122); (replace p122 := eq_true p122); (replace q122 := eq_true q122); (have p18 : 0 ≤ ((rd (rd_L1 l0_2 (rd l1 x6_1)) x8_2) : Int) := of_decide_eq_true (by first | (with_reducible assumption) | assumption)); (have q18 : ((rd (rd_L1 l0_2 (rd l1 x6_1)) x8_2) : Int) < ((x5_2.length : Int) : Int) := of_decide_eq_true (by first | (with_reducible assumption) | assumption)); (obtain ⟨go18, co18, eo18, gb18, gl18, cl18, HG18⟩ := Kd.R_form HO_5.out (by omega)); ((first | cases eo18 | (injection eo18 with ea_ en_ ec_; (first | subst ea_ | (injection ea_ with ea_; subst ea_)); subst ec_; clear en_))); (have GB18 := A0_ gb18); (have GG18 := A0_ HG18); clear gb18 gl18 HG18; ((first | simp only [add_plain] at hx122_0 | skip)); (obtain ⟨hx18_0, hf18_0⟩ := Kd.R_celln 0 HO_5.out ((rd (rd_L1 l0_2 (rd l1 x6_1)) x8_2) : Int) p18 q18); (replace p18 := eq_true p18); (replace q18 := eq_true q18); (have HP20 := Kd.R_putg HO_5.out ((rd (rd_L1 l0_2 (rd l1 x6_1)) x8_2) : Int) (wrap64 ((rd x5_2 (rd (rd_L1 l0_2 (rd l1 x6_1)) x8_2)) + 1)))
               go_wp2_with (first | ((with_reducible refine gate_store (t := 2) (p := 40) rfl ?_); (try (rw [drewN_self wr]; generalize hq_ : World.drewN wr _ = wr; have n0_ := A0_ (Kd.R_at hq_ HO_5.out); have n1_ := A0_ (blk_at hq_ BK115.out); have n2_ := A0_ (below_at hq_ HB.out); clear hq_ HO_5 BK115 HB; have HO_5 := n0_; have BK115 := n1_; have HB := n2_; clear n0_ n1_ n2_; (try (have HP20 := Kd.R_putg HO_5.out ((rd (rd_L1 l0_2 (rd l1 x6_1)) x8_2) : Int) (wrap64 ((rd x5_2 (rd (rd_L1 l0_2 (rd l1 x6_1)) x8_2)) + 1)))))); refine store_event (t := 2) (p := 40) (v := ?vo_w21) (w1 := (wr.setCell ⟨go18, ((rd (rd_L1 l0_2 (rd l1 x6_1)) x8_2) : Int).toNat, none⟩ (.int .i64 (wrap64 ((rd x5_2 (rd (rd_L1 l0_2 (rd l1 x6_1)) x8_2)) + 1))))) ?hg ?ho ?hn ?hr ?_; (case ho => rfl); (case hg => rfl); (case hn => rfl); (case hr => first | (go_simp; done) | (go_simp; rfl)); intro w21 hw; have hg : wr.grownBy w21 (some go18) := (by rw [hw]; exact HP20.2); have hp_ : Kd.R (Kd.int .i64) 2 w21 w.heap.size (fun _ => True) (.slice (some ⟨go18, 0, none⟩) x5_2.length co19) y123 := (by rw [hw, Ny123.out]; exact HP20.1); clear HP20; have n0_ := A0_ (hp_); have n1_ := A0_ (blk_grown (g := gb115) (o := .cells #[.int .i64 a0_0, .int .i64 a0_1, .slice (some ad120) l0_2.length c0_2] 28 (0, 0)) (by (with_reducible repeat (first | apply gn_ | apply gd_ | apply ga_)); exact BK115.out) hg (Kd.R_ne HO_5.out BK115.out (by decide))); have n2_ := A0_ ((by rw [hw]; exact below_set (HB.out) GB18.out : Below w.heap.size w w21)); clear HO_5; clear BK115; clear HB; have HO_5 := n0_; have BK115 := n1_; have HB := n2_; clear n0_ n1_ n2_; clear hg hw hp_))
               repeat (go_quiet (first | ((with_reducible refine gate_store (t := 2) (p := 40) rfl ?_); (try (rw [drewN_self wr]; generalize hq_ : World.drewN wr _ = wr; have n0_ := A0_ (Kd.R_at hq_ HO_5.out); have n1_ := A0_ (blk_at hq_ BK115.out); have n2_ := A0_ (below_at hq_ HB.out); clear hq_ HO_5 BK115 HB; have HO_5 := n0_; have BK115 := n1_; have HB := n2_; clear n0_ n1_ n2_; (try (have HP20 := Kd.R_putg HO_5.out ((rd (rd_L1 l0_2 (rd l1 x6_1)) x8_2) : Int) (wrap64 ((rd x5_2 (rd (rd_L1 l0_2 (rd l1 x6_1)) x8_2)) + 1)))))); refine store_event (t := 2) (p := 40) (v := ?vo_w21) (w1 := (wr.setCell ⟨go18, ((rd (rd_L1 l0_2 (rd l1 x6_1)) x8_2) : Int).toNat, none⟩ (.int .i64 (wrap64 ((rd x5_2 (rd (rd_L1 l0_2 (rd l1 x6_1)) x8_2)) + 1))))) ?hg ?ho ?hn ?hr ?_; (case ho => rfl); (case hg => rfl); (case hn => rfl); (case hr => first | (go_simp; done) | (go_simp; rfl)); intro w21 hw; have hg : wr.grownBy w21 (some go18) := (by rw [hw]; exact HP20.2); have hp_ : Kd.R (Kd.int .i64) 2 w21 w.heap.size (fun _ => True) (.slice (some ⟨go18, 0, none⟩) x5_2.length co19) y123 := (by rw [hw, Ny123.out]; exact HP20.1); clear HP20; have n0_ := A0_ (hp_); have n1_ := A0_ (blk_grown (g := gb115) (o := .cells #[.int .i64 a0_0, .int .i64 a0_1, .slice (some ad120) l0_2.length c0_2] 28 (0, 0)) (by (with_reducible repeat (first | apply gn_ | apply gd_ | apply ga_)); exact BK115.out) hg (Kd.R_ne HO_5.out BK115.out (by decide))); have n2_ := A0_ ((by rw [hw]; exact below_set (HB.out) GB18.out : Below w.heap.size w w21)); clear HO_5; clear BK115; clear HB; have HO_5 := n0_; have BK115 := n1_; have HB := n2_; clear n0_ n1_ n2_; clear hg hw hp_)); try go_wp2_with (first | ((with_reducible refine gate_store (t := 2) (p := 40) rfl ?_); (try (rw [drewN_self wr]; generalize hq_ : World.drewN wr _ = wr; have n0_ := A0_ (Kd.R_at hq_ HO_5.out); have n1_ := A0_ (blk_at hq_ BK115.out); have n2_ := A0_ (below_at hq_ HB.out); clear hq_ HO_5 BK115 HB; have HO_5 := n0_; have BK115 := n1_; have HB := n2_; clear n0_ n1_ n2_; (try (have HP20 := Kd.R_putg HO_5.out ((rd (rd_L1 l0_2 (rd l1 x6_1)) x8_2) : Int) (wrap64 ((rd x5_2 (rd (rd_L1 l0_2 (rd l1 x6_1)) x8_2)) + 1)))))); refine store_event (t := 2) (p := 40) (v := ?vo_w21) (w1 := (wr.setCell ⟨go18, ((rd (rd_L1 l0_2 (rd l1 x6_1)) x8_2) : Int).toNat, none⟩ (.int .i64 (wrap64 ((rd x5_2 (rd (rd_L1 l0_2 (rd l1 x6_1)) x8_2)) + 1))))) ?hg ?ho ?hn ?hr ?_; (case ho => rfl); (case hg => rfl); (case hn => rfl); (case hr => first | (go_simp; done) | (go_simp; rfl)); intro w21 hw; have hg : wr.grownBy w21 (some go18) := (by rw [hw]; exact HP20.2); have hp_ : Kd.R (Kd.int .i64) 2 w21 w.heap.size (fun _ => True) (.slice (some ⟨go18, 0, none⟩) x5_2.length co19) y123 := (by rw [hw, Ny123.out]; exact HP20.1); clear HP20; have n0_ := A0_ (hp_); have n1_ := A0_ (blk_grown (g := gb115) (o := .cells #[.int .i64 a0_0, .int .i64 a0_1, .slice (some ad120) l0_2.length c0_2] 28 (0, 0)) (by (with_reducible repeat (first | apply gn_ | apply gd_ | apply ga_)); exact BK115.out) hg (Kd.R_ne HO_5.out BK115.out (by decide))); have n2_ := A0_ ((by rw [hw]; exact below_set (HB.out) GB18.out : Below w.heap.size w w21)); clear HO_5; clear BK115; clear HB; have HO_5 := n0_; have BK115 := n1_; have HB := n2_; clear n0_ n1_ n2_; clear hg hw hp_)))
               (go_roundg k2)
               case measure => have := HK1.out; have := HK2.out; omega
               case rel => exact ⟨(y123), (wrap64 (x8_2 + 1)), (by first | rfl | (simp; done) | (simp [*]; done)), H', ⟨by have := HK1.out; have := HK2.out; omega⟩, ⟨by (with_reducible repeat (first | apply Ra_ | apply Rn_ | apply Rd_)); exact HO_5.out⟩, ⟨by (with_reducible repeat (first | apply gn_ | apply gd_ | apply ga_)); exact BK115.out⟩, ⟨by repeat (first | (with_reducible first | exact HB.out | apply ba_ | apply bn_ | apply bd_ | refine below_set ?_ GE115.out) | exact HB.out)⟩⟩
              ·(rw [if_neg c17] at H); (exact absurd H (by simp))
             ·(rw [if_neg c16] at H); (exact absurd H (by simp))
            ·(rw [if_neg c15] at H); (exact absurd H (by simp))
           ·(rw [if_neg c14] at H); (have c14b0 : decide (x8_2 < ((rd_L1 l0_2 (rd l1 x6_1)).length : Int)) = false := decide_eq_false c14); clear c14; (have H' := A0_ H); clear H; go_wp2; (repeat (go_quiet (fail); try go_wp2)); (go_roundg k2)
            case measure => have := HK1.out; have := HK2.out; omega
            case rel => exact ⟨(x5_2), (wrap64 (x6_1 + 1)), (by first | rfl | (simp; done) | (simp [*]; done)), H', ⟨by have := HK1.out; have := HK2.out; omega⟩, ⟨by (with_reducible repeat (first | apply Ra_ | apply Rn_ | apply Rd_)); exact HO_5.out⟩, ⟨by (with_reducible repeat (first | apply gn_ | apply gd_ | apply ga_)); exact BK115.out⟩, ⟨by repeat (first | (with_reducible first | exact HB.out | apply ba_ | apply bn_ | apply bd_ | refine below_set ?_ GE115.out) | exact HB.out)⟩⟩
        ·(rw [if_neg c12] at H); (exact absurd H (by simp))
       ·(rw [if_neg c11] at H); (exact absurd H (by simp))
      ·(rw [if_neg c10] at H); (exact absurd H (by simp))
     ·(rw [if_neg c9] at H); (have c9b0 : decide (x6_1 < (l1.length : Int)) = false := decide_eq_false c9); clear c9; (obtain rfl := Option.some.inj H); go_wp2; (repeat (go_quiet (fail); try go_wp2)); go_ret; (exact ⟨_, by first | rfl | (simp [errW_none, errW_some] <;> rfl) | (simp [*, errW_none, errW_some] <;> rfl), by (with_reducible repeat (first | apply Ra_ | apply Rn_ | apply Rd_)); exact HO_5.out, by repeat (first | (with_reducible first | exact HB.out | apply ba_ | apply bn_ | apply bd_ | refine below_set ?_ GE115.out) | exact HB.out)⟩)
  ·(rw [if_neg c4] at H); (exact absurd H (by simp))
 ·(rw [if_neg c3] at H); (exact absurd H (by simp))
end Go.Proofs.YtoglcgnbkibpgaaDoor.A

namespace Go.Proofs.YtoglcgnbkibpgaaDoor.A
open Go.RowKit Go.Proofs.YtoglcgnbkibpgaaDoorW.PrintWords Go.Proofs.YtoglcgnbkibpgaaDoorW.PrintLast Go.Proofs.YtoglcgnbkibpgaaDoorW.PrintMore
attribute [local go_sem] max2_int min2_int max_two min_two max_three min_three max_four min_four   -- for this text's walks alone
set_option linter.unusedVariables false
set_option linter.unusedSimpArgs false
def spec_l01Has.l0 : Nat → List Int → Int → Int → Option (Bool)
  | 0, _, _, _ => none
  | k + 1, x0, x1, x5 => if x5 < (x0.length : Int) then (if 0 ≤ x5 then (if (rd x0 x5) = x1 then (some true) else (spec_l01Has.l0 k x0 x1 (wrap64 (x5 + 1)))) else (none)) else (some false)
def spec_l01Has.f (k : Nat) (l0 : List Int) (a1 : Int) : Option (Bool) := spec_l01Has.l0 k l0 a1 0
set_option maxHeartbeats 8000000 in
set_option maxRecDepth 100000 in
theorem spec_l01Has.calls (k : Nat) (A0 : Option Addr) (c0 : Nat) (l0 : List Int) (a1 : Int) (r : Bool) (w : World) (hr0 : Kd.C (Kd.int .i64) w A0 l0.length l0) (hc0 : l0.length ≤ c0) (h : spec_l01Has.f k l0 a1 = some r) :
    Calls Tryd.prog 54 #[.slice A0 l0.length c0, .int .i64 a1] w fun e w' => e = .returned (.bool r) ∧ Drawn0 w w' := by
 (have HR0 := A0_ hr0); (have HC0 := A0_ hc0); clear hr0 hc0; (have H : (spec_l01Has.l0 k l0 a1 0) = some r := h); clear h; (have H' := A0_ H); clear H; (go_enter Tryd.func54, Tryd.ntmps54); go_wp2
 go_loopg [5] k (fun kq v5 w' => ∃ (x5_1 : Int), v5 = .int .i64 x5_1 ∧ Aside0 (spec_l01Has.l0 kq l0 a1 x5_1 = some r) ∧ Aside0 (kq ≤ k) ∧ Drawn0 w w')
 case atStart => exact ⟨(0), (by first | rfl | (simp; done) | (simp [*]; done)), H', ⟨Nat.le_refl _⟩, by repeat (first | exact Drawn0.refl _ | apply Drawn0.step)⟩
 case round =>
  clear H'; (try clear p2); (obtain ⟨x5_1, rfl, HA, HK1, ⟨m1, rfl⟩⟩ := hrel)
  cases gk with
  | zero => exact absurd HA.out (by simp [spec_l01Has.l0])
  | succ k1 =>
   (have H := HA.out); clear HA; (simp only [spec_l01Has.l0] at H); (by_cases c3 : x5_1 < (l0.length : Int))
   ·(rw [if_pos c3] at H); (have c3b0 : decide (x5_1 < (l0.length : Int)) = true := decide_eq_true c3); clear c3; (by_cases c4 : 0 ≤ x5_1)
    ·(rw [if_pos c4] at H); (have c4b0 : decide (0 ≤ x5_1) = true := decide_eq_true c4); clear c4; (by_cases c5 : (rd l0 x5_1) = a1)
     ·(rw [if_pos c5] at H); (have c5b0 : ((rd l0 x5_1) == a1) = true := beq_iff_eq.mpr c5); (have c5b1 : ((rd l0 x5_1) != a1) = false := bne_eq_false_iff_eq.mpr c5); clear c5; (obtain rfl := Option.some.inj H); (have p124 : 0 ≤ (x5_1 : Int) := of_decide_eq_true (by first | (with_reducible assumption) | assumption)); (have q124 : x5_1 < (l0.length : Int) := of_decide_eq_true (by first | (with_reducible assumption) | assumption)); (obtain ⟨ad124, e124, hx124_0⟩ := Kd.at_int HR0.out x5_1 p124 q124); (cases e124); (replace p124 := eq_true p124); (replace q124 := eq_true q124); go_wp2; go_ret; (exact ⟨by first | rfl | (simp; done) | (simp [*]; done), by repeat (first | exact Drawn0.refl _ | apply Drawn0.step)⟩)
     ·(rw [if_neg c5] at H); (have c5b0 : ((rd l0 x5_1) == a1) = false := beq_eq_false_iff_ne.mpr c5); (have c5b1 : ((rd l0 x5_1) != a1) = true := bne_iff_ne.mpr c5); (have H' := A0_ H); clear H; (have p124 : 0 ≤ (x5_1 : Int) := of_decide_eq_true (by first | (with_reducible assumption) | assumption)); (have q124 : x5_1 < (l0.length : Int) := of_decide_eq_true (by first | (with_reducible assumption) | assumption)); (obtain ⟨ad124, e124, hx124_0⟩ := Kd.at_int HR0.out x5_1 p124 q124); (cases e124); (replace p124 := eq_true p124); (replace q124 := eq_true q124); go_wp2; (go_roundg k1)
      case measure => have := HK1.out; omega
      case rel => exact ⟨(wrap64 (x5_1 + 1)), (by first | rfl | (simp; done) | (simp [*]; done)), H', ⟨by have := HK1.out; omega⟩, by repeat (first | exact Drawn0.refl _ | apply Drawn0.step)⟩
    ·(rw [if_neg c4] at H); (exact absurd H (by simp))
   ·(rw [if_neg c3] at H); (have c3b0 : decide (x5_1 < (l0.length : Int)) = false := decide_eq_false c3); clear c3; (obtain rfl := Option.some.inj H); go_wp2; go_ret; (exact ⟨by first | rfl | (simp; done) | (simp [*]; done), by repeat (first | exact Drawn0.refl _ | apply Drawn0.step)⟩)
end Go.Proofs.YtoglcgnbkibpgaaDoor.A

namespace Go.Proofs.YtoglcgnbkibpgaaDoor.A
open Go.RowKit Go.Proofs.YtoglcgnbkibpgaaDoorW.PrintWords Go.Proofs.YtoglcgnbkibpgaaDoorW.PrintLast Go.Proofs.YtoglcgnbkibpgaaDoorW.PrintMore
attribute [local go_sem] max2_int min2_int max_two min_two max_three min_three max_four min_four   -- for this text's walks alone
set_option linter.unusedVariables false
set_option linter.unusedSimpArgs false
def spec_l13Rows.l0 : Nat → Int → List Int → Int → Int → Int → List (List Int) → Option (List Int)
  | 0, _, _, _, _, _, _ => none
  | k + 1, x1, x5, x6, x126000, x126001, x126002 => if x6 < (x126002.length : Int) then (if 0 ≤ x6 then ((spec_l01Has.f k (rd_L1 x126002 x6) x1).bind fun t130 => (if t130 = true then (if x5.length < 17592186044416 then (spec_l13Rows.l0 k x1 (x5 ++ [x6]) (wrap64 (x6 + 1)) x126000 x126001 x126002) else (none)) else (spec_l13Rows.l0 k x1 x5 (wrap64 (x6 + 1)) x126000 x126001 x126002))) else (none)) else (some x5)
def spec_l13Rows.f (k : Nat) (a0_0 : Int) (a0_1 : Int) (l0_2 : List (List Int)) (a1 : Int) : Option (List Int) := spec_l13Rows.l0 k a1 (([] : List Int)) 0 a0_0 a0_1 l0_2
set_option maxHeartbeats 8000000 in
set_option maxRecDepth 100000 in
theorem spec_l13Rows.calls (k : Nat) (a0_0 : Int) (a0_1 : Int) (A0_2 : Option Addr) (c0_2 : Nat) (l0_2 : List (List Int)) (a1 : Int) (r : List Int) (w : World) (hr0_2 : Kd.C (Kd.slice 2 (Kd.int .i64)) w A0_2 l0_2.length l0_2) (hc0_2 : l0_2.length ≤ c0_2) (h : spec_l13Rows.f k a0_0 a0_1 l0_2 a1 = some r) :
    Calls Tryd.prog 101 #[.agg #[.int .i64 a0_0, .int .i64 a0_1, .slice A0_2 l0_2.length c0_2], .int .i64 a1] w fun e w' => ∃ v0_ : Value, e = .returned (v0_) ∧ Kd.R (Kd.int .i64) 2 w' w.heap.size (fun _ => True) v0_ r ∧ Below w.heap.size w w' := by
 (have hu28 := Tryd.underlying28); (have HR0_2 := A0_ hr0_2); (have HC0_2 := A0_ hc0_2); clear hr0_2 hc0_2; (have HB := A0_ (Below.refl w.heap.size w)); (have H : (spec_l13Rows.l0 k a1 (([] : List Int)) 0 a0_0 a0_1 l0_2) = some r := h); clear h; (obtain ⟨y126, hy126⟩ : ∃ y_ : List Int, y_ = (([] : List Int)) := ⟨_, rfl⟩); (replace H : (spec_l13Rows.l0 k a1 y126 0 a0_0 a0_1 l0_2) = some r := by first | (rw [hy126]; with_reducible exact H) | (have H2_ := (Option.bind_some _ _).symm.trans H; rw [hy126]; with_reducible exact H2_) | (have H2_ := (Option.bind_some _ _).symm.trans H; with_reducible exact H2_) | with_reducible exact H | (rw [hy126]; exact H) | exact H); (have Ny126 := A0_ hy126); clear hy126; (have H' := A0_ H); clear H; (go_enter Tryd.func101, Tryd.ntmps101)
 go_wp2_with (first | ((with_reducible refine gate_dst (N := 2) rfl ?_); refine box_event ?hg (N := 2) ?hd (cs := #[.int .i64 a0_0, .int .i64 a0_1, .slice A0_2 l0_2.length c0_2]) (t := 28) ?hr ?_; (case hd => rfl); (case hg => rfl); (case hr => first | (go_simp; done) | (go_simp; rfl)); intro gb125 hg w3 hbox hb; have n0_ := A0_ (below_step (by repeat (first | (with_reducible first | exact HB.out | apply ba_ | apply bn_ | apply bd_) | exact HB.out)) hb); have n1_ := A0_ (hbox); have n2_ := A0_ ((by rw [hg]; exact (below_size (by repeat (first | (with_reducible first | exact HB.out | apply ba_ | apply bn_ | apply bd_) | exact HB.out))) : w.heap.size ≤ gb125)); have n3_ := A0_ ((by rw [hg]; exact (below_size (by repeat (first | (with_reducible first | exact HB.out | apply ba_ | apply bn_ | apply bd_) | exact HB.out))) : w.heap.size ≤ gb125)); clear HB; have HB := n0_; have BK125 := n1_; have GW125 := n2_; have GE125 := n3_; clear n0_ n1_ n2_ n3_; clear hb hbox hg) | ((with_reducible refine gate_dst (N := 7) rfl ?_); refine Kd.R_lit (Kd.int .i64) _ 2 ?hg (N := 7) ?hd (xs := ([] : List Int)) (inner := []) (ok := fun _ => True) (okp := fun _ => True) ?hr ?hp (fun _ hk => hk) trivial (Below.refl _ _) (Nat.le_refl _) (by simp) ?_; (case hd => rfl); (case hg => rfl); (case hr => first | (go_simp; done) | (go_simp; rfl)); (case hp => exact (Reps.none _ _)); intro v127 w4 ho5 hb hg_ hnew_; clear hg_ hnew_; (first | rw [← Ny126.out] at ho5 | (simp only [Int.reduceToNat] at ho5; rw [← Ny126.out] at ho5)); have n0_ := A0_ (Kd.R_lower ho5 (below_size (by repeat (first | (with_reducible first | exact HB.out | apply ba_ | apply bn_ | apply bd_ | refine below_set ?_ GE125.out) | exact HB.out)))); have n1_ := A0_ (blk_below (g := gb125) (o := .cells #[.int .i64 a0_0, .int .i64 a0_1, .slice A0_2 l0_2.length c0_2] 28 (0, 0)) (by (with_reducible repeat (first | apply gn_ | apply gd_ | apply ga_)); exact BK125.out) hb); have n2_ := A0_ (below_step (by repeat (first | (with_reducible first | exact HB.out | apply ba_ | apply bn_ | apply bd_ | refine below_set ?_ GE125.out) | exact HB.out)) hb); clear BK125; clear HB; have HO128 := n0_; have BK125 := n1_; have HB := n2_; clear n0_ n1_ n2_; clear hb ho5))
 go_loopg [5, 6] k (fun kq v5 v6 w' => ∃ (x5_1 : List Int) (x6_1 : Int), v6 = .int .i64 x6_1 ∧ Aside0 (spec_l13Rows.l0 kq a1 x5_1 x6_1 a0_0 a0_1 l0_2 = some r) ∧ Aside0 (kq ≤ k) ∧ Aside0 (Kd.R (Kd.int .i64) 2 w' w.heap.size (fun _ => True) v5 x5_1) ∧ Aside0 (w'.heap[gb125]? = some (.cells #[.int .i64 a0_0, .int .i64 a0_1, (.slice A0_2 l0_2.length c0_2)] 28 (0, 0))) ∧ Aside0 (Below w.heap.size w w'))
 case atStart => exact ⟨(y126), (0), (by first | rfl | (simp; done) | (simp [*]; done)), H', ⟨Nat.le_refl _⟩, ⟨by (with_reducible repeat (first | apply Ra_ | apply Rn_ | apply Rd_)); exact HO128.out⟩, ⟨by (with_reducible repeat (first | apply gn_ | apply gd_ | apply ga_)); exact BK125.out⟩, ⟨by repeat (first | (with_reducible first | exact HB.out | apply ba_ | apply bn_ | apply bd_ | refine below_set ?_ GE125.out) | exact HB.out)⟩⟩
 case round =>
  clear H'; (try clear c1); (try clear p2); (obtain ⟨x5_1, x6_1, rfl, HA, HK1, HO_5, BK125, HB⟩ := hrel)
  cases gk with
  | zero => exact absurd HA.out (by simp [spec_l13Rows.l0])
  | succ k1 =>
   (have H := HA.out); clear HA; (simp only [spec_l13Rows.l0] at H); (by_cases c6 : x6_1 < (l0_2.length : Int))
   ·(rw [if_pos c6] at H); (have c6b0 : decide (x6_1 < (l0_2.length : Int)) = true := decide_eq_true c6); clear c6; (by_cases c7 : 0 ≤ x6_1)
    ·(rw [if_pos c7] at H); (have c7b0 : decide (0 ≤ x6_1) = true := decide_eq_true c7); clear c7; (replace H := Option.bind_eq_some_iff.mp H); (obtain ⟨t130, A80, H⟩ := H); (try dsimp only at H); (have A8 := A0_ A80); clear A80; (have H0_ := A0_ H); clear H; (have hcz9_0 : wr.cell? ⟨gb125, 0, none⟩ = some (.int .i64 a0_0) := (blk_cell BK125.out 0).trans rfl); (have hcz9_1 : wr.cell? ⟨gb125, 1, none⟩ = some (.int .i64 a0_1) := (blk_cell BK125.out 1).trans rfl); (have hcz9_2 : wr.cell? ⟨gb125, 2, none⟩ = some (.slice A0_2 l0_2.length c0_2) := (blk_cell BK125.out 2).trans rfl); (have hfz9_0 := blk_frozen BK125.out 0); (have hfz9_1 := blk_frozen BK125.out 1); (have hfz9_2 := blk_frozen BK125.out 2); (have p129 : 0 ≤ (x6_1 : Int) := of_decide_eq_true (by first | (with_reducible assumption) | assumption)); (have q129 : x6_1 < (l0_2.length : Int) := of_decide_eq_true (by first | (with_reducible assumption) | assumption)); (obtain ⟨ad129, A129_0, c129_0, e129, hx129_0, hl129_0, hi129_0⟩ := at_L1 HR0_2.out x6_1 p129 q129); (cases e129); (replace hx129_0 := (HB.out.cell (World.block_lt_of_cell? w _ hx129_0)).trans hx129_0); (have HR129_0 := A0_ hi129_0); (have HC129_0 := A0_ hl129_0); clear hi129_0 hl129_0; (replace p129 := eq_true p129); (replace q129 := eq_true q129); (go_wp2_with (first | ((with_reducible refine gate_callee (f := 54) rfl ?_); refine goesL_ (some 21) rfl rfl Tryd.func54 (by kernel_rfl) rfl #[.slice A129_0 (rd_L1 l0_2 x6_1).length c129_0, .int .i64 a1] rfl (by (try simp only [List.map_toArray, List.map_cons, List.map_nil]); first | done | rfl | (simp only [List.length_drop, List.length_take]; rfl)) ?_; (with_reducible refine (spec_l01Has.calls k1 _ _ (rd_L1 l0_2 x6_1) a1 t130 _ ?side1 ?side2 A8.out).mono ?_); (case side1 => repeat (first | exact (Kd.C_below HR129_0.out HB.out) | (with_reducible refine Kd.C_alloc ?_ _) | (with_reducible refine Kd.C_drewN ?_ _) | (with_reducible refine Kd.C_drew ?_))); (case side2 => exact HC129_0.out); rintro e w' ⟨rfl, ⟨nd, rfl⟩⟩; refine ⟨_, rfl, ?_⟩; refine Stop0.out ?_))); (refine Stop0.mk ?_); (have H := H0_.out); clear H0_; (by_cases c10 : t130 = true)
     ·subst c10; (have H1 := H); (rw [if_pos rfl] at H1); clear H; (have H := H1); clear H1; (by_cases c11 : x5_1.length < 17592186044416)
      ·(rw [if_pos c11] at H); (have LMc11 := A0_ c11); clear c11; (obtain ⟨y131, hy131⟩ : ∃ y_ : List Int, y_ = (x5_1 ++ [x6_1]) := ⟨_, rfl⟩); (replace H : (spec_l13Rows.l0 k1 a1 y131 (wrap64 (x6_1 + 1)) a0_0 a0_1 l0_2) = some r := by first | (rw [hy131]; with_reducible exact H) | (have H2_ := (Option.bind_some _ _).symm.trans H; rw [hy131]; with_reducible exact H2_) | (have H2_ := (Option.bind_some _ _).symm.trans H; with_reducible exact H2_) | with_reducible exact H | (rw [hy131]; exact H) | exact H); (have Ny131 := A0_ hy131); clear hy131; (have H' := A0_ H); clear H
       go_wp2_with (first | ((with_reducible refine gate_builtin (b := .append) (xs := #[.tmp 22, .tmp 24]) rfl ?_); at_builtin; refine Kd.R_append (Kd.int .i64) (w0 := w) w.heap.size rfl (.tmp 22) (.tmp 24) 32 2 (.int .i64 0) 8 rfl Tryd.underlying32 info2 rfl (by decide) (by omega) u5 x5_1 x6_1 [.int .i64 x6_1] (fun _ => True) (fun _ => False) rfl rfl ?aP (fun _ hk => hk.elim) ?aF ?aO ?aB ?aS ?aL ?_; (case aP => exact rfl); (case aB => exact (by repeat (first | (with_reducible first | exact HB.out | apply ba_ | apply bn_ | apply bd_ | refine below_set ?_ GE125.out) | exact HB.out))); (case aF => exact (fun _ _ => trivial)); (case aO => exact (by (with_reducible repeat (first | apply Ra_ | apply Rn_ | apply Rd_)); exact HO_5.out)); (case aS => exact (below_size (by repeat (first | (with_reducible first | exact HB.out | apply ba_ | apply bn_ | apply bd_ | refine below_set ?_ GE125.out) | exact HB.out)))); (case aL => have := LMc11.out; omega); intro v132 w12 ho hb hg hat; rw [← Ny131.out] at ho; have n0_ := A0_ (blk_grown (g := gb125) (o := .cells #[.int .i64 a0_0, .int .i64 a0_1, .slice (some ad129) l0_2.length c0_2] 28 (0, 0)) (by (with_reducible repeat (first | apply gn_ | apply gd_ | apply ga_)); exact BK125.out) hg (Kd.R_ne HO_5.out BK125.out (by decide))); have n1_ := A0_ (hb); have n2_ := A0_ (ho); clear BK125; clear HB; clear HO_5; have BK125 := n0_; have HB := n1_; have HO133 := n2_; clear n0_ n1_ n2_; clear ho hb hg hat))
       (go_roundg k1)
       case measure => have := HK1.out; omega
       case rel => exact ⟨(y131), (wrap64 (x6_1 + 1)), (by first | rfl | (simp; done) | (simp [*]; done)), H', ⟨by have := HK1.out; omega⟩, ⟨by (with_reducible repeat (first | apply Ra_ | apply Rn_ | apply Rd_)); exact HO133.out⟩, ⟨by (with_reducible repeat (first | apply gn_ | apply gd_ | apply ga_)); exact BK125.out⟩, ⟨by repeat (first | (with_reducible first | exact HB.out | apply ba_ | apply bn_ | apply bd_ | refine below_set ?_ GE125.out) | exact HB.out)⟩⟩
      ·(rw [if_neg c11] at H); (exact absurd H (by simp))
     ·(replace c10 := Bool.eq_false_iff.mpr c10); subst c10; (have H1 : (spec_l13Rows.l0 k1 a1 x5_1 (wrap64 (x6_1 + 1)) a0_0 a0_1 l0_2) = some r := by rw [if_neg (show ¬ (false = true) by decide)] at H; exact H); clear H; (have H := H1); clear H1; (have H' := A0_ H); clear H; go_wp2; (go_roundg k1)
      case measure => have := HK1.out; omega
      case rel => exact ⟨(x5_1), (wrap64 (x6_1 + 1)), (by first | rfl | (simp; done) | (simp [*]; done)), H', ⟨by have := HK1.out; omega⟩, ⟨by (with_reducible repeat (first | apply Ra_ | apply Rn_ | apply Rd_)); exact HO_5.out⟩, ⟨by (with_reducible repeat (first | apply gn_ | apply gd_ | apply ga_)); exact BK125.out⟩, ⟨by repeat (first | (with_reducible first | exact HB.out | apply ba_ | apply bn_ | apply bd_ | refine below_set ?_ GE125.out) | exact HB.out)⟩⟩
    ·(rw [if_neg c7] at H); (exact absurd H (by simp))
   ·(rw [if_neg c6] at H); (have c6b0 : decide (x6_1 < (l0_2.length : Int)) = false := decide_eq_false c6); clear c6; (obtain rfl := Option.some.inj H); (have hcz13_0 : wr.cell? ⟨gb125, 0, none⟩ = some (.int .i64 a0_0) := (blk_cell BK125.out 0).trans rfl); (have hcz13_1 : wr.cell? ⟨gb125, 1, none⟩ = some (.int .i64 a0_1) := (blk_cell BK125.out 1).trans rfl); (have hcz13_2 : wr.cell? ⟨gb125, 2, none⟩ = some (.slice A0_2 l0_2.length c0_2) := (blk_cell BK125.out 2).trans rfl); (have hfz13_0 := blk_frozen BK125.out 0); (have hfz13_1 := blk_frozen BK125.out 1); (have hfz13_2 := blk_frozen BK125.out 2); go_wp2; go_ret; (exact ⟨_, by first | rfl | (simp [errW_none, errW_some] <;> rfl) | (simp [*, errW_none, errW_some] <;> rfl), by (with_reducible repeat (first | apply Ra_ | apply Rn_ | apply Rd_)); exact HO_5.out, by repeat (first | (with_reducible first | exact HB.out | apply ba_ | apply bn_ | apply bd_ | refine below_set ?_ GE125.out) | exact HB.out)⟩)
end Go.Proofs.YtoglcgnbkibpgaaDoor.A

namespace Go.Proofs.YtoglcgnbkibpgaaDoor.A
open Go.RowKit Go.Proofs.YtoglcgnbkibpgaaDoorW.PrintWords Go.Proofs.YtoglcgnbkibpgaaDoorW.PrintLast Go.Proofs.YtoglcgnbkibpgaaDoorW.PrintMore
attribute [local go_sem] max2_int min2_int max_two min_two max_three min_three max_four min_four   -- for this text's walks alone
set_option linter.unusedVariables false
set_option linter.unusedSimpArgs false
mutual
def spec_l14Open.l0 : Nat → List Int → List Int → List Int → Int → Int → Int → List (List Int) → Option (List Int)
  | 0, _, _, _, _, _, _, _ => none
  | k + 1, x1, x7, x8, x9, x135000, x135001, x135002 => if x9 < (x7.length : Int) then (if 0 ≤ x9 then (if 0 ≤ (rd x7 x9) then (if (rd x7 x9) < (x135002.length : Int) then (spec_l14Open.l1 k x1 x7 x8 x9 true (rd_L1 x135002 (rd x7 x9)) 0 x135000 x135001 x135002) else (none)) else (none)) else (none)) else (some x8)
def spec_l14Open.l1 : Nat → List Int → List Int → List Int → Int → Bool → List Int → Int → Int → Int → List (List Int) → Option (List Int)
  | 0, _, _, _, _, _, _, _, _, _, _ => none
  | k + 1, x1, x7, x8, x9, x10, x11, x12, x135000, x135001, x135002 => if x12 < (x11.length : Int) then (if x10 = true then (if 0 ≤ x12 then (if 0 ≤ (rd x11 x12) then (if (rd x11 x12) < (x1.length : Int) then (spec_l14Open.l1 k x1 x7 x8 x9 ((rd x1 (rd x11 x12)) == 0) x11 (wrap64 (x12 + 1)) x135000 x135001 x135002) else (none)) else (none)) else (none)) else (spec_l14Open.l1 k x1 x7 x8 x9 false x11 (wrap64 (x12 + 1)) x135000 x135001 x135002)) else (if x10 = true then (if 0 ≤ x9 then (if x9 < (x7.length : Int) then (if x8.length < 17592186044416 then (spec_l14Open.l0 k x1 x7 (x8 ++ [rd x7 x9]) (wrap64 (x9 + 1)) x135000 x135001 x135002) else (none)) else (none)) else (none)) else (spec_l14Open.l0 k x1 x7 x8 (wrap64 (x9 + 1)) x135000 x135001 x135002))
end
def spec_l14Open.f (k : Nat) (a0_0 : Int) (a0_1 : Int) (l0_2 : List (List Int)) (l1 : List Int) (a2 : Int) : Option (List Int) := (spec_l13Rows.f k a0_0 a0_1 l0_2 a2).bind fun t135 => (spec_l14Open.l0 k l1 t135 (([] : List Int)) 0 a0_0 a0_1 l0_2)
set_option maxHeartbeats 8000000 in
set_option maxRecDepth 100000 in
theorem spec_l14Open.calls (k : Nat) (a0_0 : Int) (a0_1 : Int) (A0_2 : Option Addr) (c0_2 : Nat) (l0_2 : List (List Int)) (A1 : Option Addr) (c1 : Nat) (l1 : List Int) (a2 : Int) (r : List Int) (w : World) (hr0_2 : Kd.C (Kd.slice 2 (Kd.int .i64)) w A0_2 l0_2.length l0_2) (hc0_2 : l0_2.length ≤ c0_2) (hr1 : Kd.C (Kd.int .i64) w A1 l1.length l1) (hc1 : l1.length ≤ c1) (h : spec_l14Open.f k a0_0 a0_1 l0_2 l1 a2 = some r) :
    Calls Tryd.prog 86 #[.agg #[.int .i64 a0_0, .int .i64 a0_1, .slice A0_2 l0_2.length c0_2], .slice A1 l1.length c1, .int .i64 a2] w fun e w' => ∃ v0_ : Value, e = .returned (v0_) ∧ Kd.R (Kd.int .i64) 2 w' w.heap.size (fun _ => True) v0_ r ∧ Below w.heap.size w w' := by
 (have hu28 := Tryd.underlying28); (have HR0_2 := A0_ hr0_2); (have HC0_2 := A0_ hc0_2); clear hr0_2 hc0_2; (have HR1 := A0_ hr1); (have HC1 := A0_ hc1); clear hr1 hc1; (have HB := A0_ (Below.refl w.heap.size w))
 have H : ((spec_l13Rows.f k a0_0 a0_1 l0_2 a2).bind fun t135 => (spec_l14Open.l0 k l1 t135 (([] : List Int)) 0 a0_0 a0_1 l0_2)) = some r := h
 clear h; (replace H := Option.bind_eq_some_iff.mp H); (obtain ⟨t135, A40, H⟩ := H); (try dsimp only at H); (have A4 := A0_ A40); clear A40; (obtain ⟨y138, hy138⟩ : ∃ y_ : List Int, y_ = (([] : List Int)) := ⟨_, rfl⟩); (replace H : (spec_l14Open.l0 k l1 t135 y138 0 a0_0 a0_1 l0_2) = some r := by first | (rw [hy138]; with_reducible exact H) | (have H2_ := (Option.bind_some _ _).symm.trans H; rw [hy138]; with_reducible exact H2_) | (have H2_ := (Option.bind_some _ _).symm.trans H; with_reducible exact H2_) | with_reducible exact H | (rw [hy138]; exact H) | exact H); (have Ny138 := A0_ hy138); clear hy138; (have H' := A0_ H); clear H; (go_enter Tryd.func86, Tryd.ntmps86)
 go_wp2_with (first | ((with_reducible refine gate_dst (N := 3) rfl ?_); refine box_event ?hg (N := 3) ?hd (cs := #[.int .i64 a0_0, .int .i64 a0_1, .slice A0_2 l0_2.length c0_2]) (t := 28) ?hr ?_; (case hd => rfl); (case hg => rfl); (case hr => first | (go_simp; done) | (go_simp; rfl)); intro gb134 hg w5 hbox hb; have n0_ := A0_ (below_step (by repeat (first | (with_reducible first | exact HB.out | apply ba_ | apply bn_ | apply bd_) | exact HB.out)) hb); have n1_ := A0_ (hbox); have n2_ := A0_ ((by rw [hg]; exact (below_size (by repeat (first | (with_reducible first | exact HB.out | apply ba_ | apply bn_ | apply bd_) | exact HB.out))) : w.heap.size ≤ gb134)); have n3_ := A0_ ((by rw [hg]; exact (below_size (by repeat (first | (with_reducible first | exact HB.out | apply ba_ | apply bn_ | apply bd_) | exact HB.out))) : w.heap.size ≤ gb134)); clear HB; have HB := n0_; have BK134 := n1_; have GW134 := n2_; have GE134 := n3_; clear n0_ n1_ n2_ n3_; clear hb hbox hg; have hcz6_0 : w5.cell? ⟨gb134, 0, none⟩ = some (.int .i64 a0_0) := (blk_cell BK134.out 0).trans rfl; have hcz6_1 : w5.cell? ⟨gb134, 1, none⟩ = some (.int .i64 a0_1) := (blk_cell BK134.out 1).trans rfl; have hcz6_2 : w5.cell? ⟨gb134, 2, none⟩ = some (.slice A0_2 l0_2.length c0_2) := (blk_cell BK134.out 2).trans rfl; have hfz6_0 := blk_frozen BK134.out 0; have hfz6_1 := blk_frozen BK134.out 1; have hfz6_2 := blk_frozen BK134.out 2) | (go_at_call 101; (with_reducible refine (spec_l13Rows.calls k a0_0 a0_1 _ _ l0_2 a2 t135 _ ?side1 ?side2 A4.out).mono ?_); (case side1 => repeat (first | exact (Kd.C_below HR0_2.out HB.out) | (with_reducible refine Kd.C_alloc ?_ _) | (with_reducible refine Kd.C_drewN ?_ _) | (with_reducible refine Kd.C_drew ?_))); (case side2 => exact HC0_2.out); rintro e w7 ⟨v136, rfl, ho0, hb⟩; have n0_ := A0_ (Kd.R_lower ho0 (below_size (by repeat (first | (with_reducible first | exact HB.out | apply ba_ | apply bn_ | apply bd_ | refine below_set ?_ GE134.out) | exact HB.out)))); have n1_ := A0_ (blk_below (g := gb134) (o := .cells #[.int .i64 a0_0, .int .i64 a0_1, .slice A0_2 l0_2.length c0_2] 28 (0, 0)) (by (with_reducible repeat (first | apply gn_ | apply gd_ | apply ga_)); exact BK134.out) hb); have n2_ := A0_ (below_step (by repeat (first | (with_reducible first | exact HB.out | apply ba_ | apply bn_ | apply bd_ | refine below_set ?_ GE134.out) | exact HB.out)) hb); clear BK134; clear HB; have HO137 := n0_; have BK134 := n1_; have HB := n2_; clear n0_ n1_ n2_; (try clear hb); (try clear hb2); (try clear hk); (try clear hi); (try clear ho0)) | ((with_reducible refine gate_dst (N := 16) rfl ?_); refine Kd.R_lit (Kd.int .i64) _ 2 ?hg (N := 16) ?hd (xs := ([] : List Int)) (inner := []) (ok := fun _ => True) (okp := fun _ => True) ?hr ?hp (fun _ hk => hk) trivial (Below.refl _ _) (Nat.le_refl _) (by simp) ?_; (case hd => rfl); (case hg => rfl); (case hr => first | (go_simp; done) | (go_simp; rfl)); (case hp => exact (Reps.none _ _)); intro v139 w8 ho9 hb hg_ hnew_; clear hg_ hnew_; (first | rw [← Ny138.out] at ho9 | (simp only [Int.reduceToNat] at ho9; rw [← Ny138.out] at ho9)); have n0_ := A0_ (Kd.R_elder' (by (with_reducible repeat (first | apply Ra_ | apply Rn_ | apply Rd_)); exact HO137.out) (Kd.R_base ho9) hb); have n1_ := A0_ (Kd.R_lower (Kd.R_new' ho9 (Kd.R_lt (by (with_reducible repeat (first | apply Ra_ | apply Rn_ | apply Rd_)); exact HO137.out))) (below_size (by repeat (first | (with_reducible first | exact HB.out | apply ba_ | apply bn_ | apply bd_ | refine below_set ?_ GE134.out) | exact HB.out)))); have n2_ := A0_ (blk_below (g := gb134) (o := .cells #[.int .i64 a0_0, .int .i64 a0_1, .slice A0_2 l0_2.length c0_2] 28 (0, 0)) (by (with_reducible repeat (first | apply gn_ | apply gd_ | apply ga_)); exact BK134.out) hb); have n3_ := A0_ (below_step (by repeat (first | (with_reducible first | exact HB.out | apply ba_ | apply bn_ | apply bd_ | refine below_set ?_ GE134.out) | exact HB.out)) hb); clear HO137; clear BK134; clear HB; have HO137 := n0_; have HO140 := n1_; have BK134 := n2_; have HB := n3_; clear n0_ n1_ n2_ n3_; clear hb ho9))
 repeat (go_quiet (first | ((with_reducible refine gate_dst (N := 3) rfl ?_); refine box_event ?hg (N := 3) ?hd (cs := #[.int .i64 a0_0, .int .i64 a0_1, .slice A0_2 l0_2.length c0_2]) (t := 28) ?hr ?_; (case hd => rfl); (case hg => rfl); (case hr => first | (go_simp; done) | (go_simp; rfl)); intro gb134 hg w5 hbox hb; have n0_ := A0_ (below_step (by repeat (first | (with_reducible first | exact HB.out | apply ba_ | apply bn_ | apply bd_) | exact HB.out)) hb); have n1_ := A0_ (hbox); have n2_ := A0_ ((by rw [hg]; exact (below_size (by repeat (first | (with_reducible first | exact HB.out | apply ba_ | apply bn_ | apply bd_) | exact HB.out))) : w.heap.size ≤ gb134)); have n3_ := A0_ ((by rw [hg]; exact (below_size (by repeat (first | (with_reducible first | exact HB.out | apply ba_ | apply bn_ | apply bd_) | exact HB.out))) : w.heap.size ≤ gb134)); clear HB; have HB := n0_; have BK134 := n1_; have GW134 := n2_; have GE134 := n3_; clear n0_ n1_ n2_ n3_; clear hb hbox hg; have hcz6_0 : w5.cell? ⟨gb134, 0, none⟩ = some (.int .i64 a0_0) := (blk_cell BK134.out 0).trans rfl; have hcz6_1 : w5.cell? ⟨gb134, 1, none⟩ = some (.int .i64 a0_1) := (blk_cell BK134.out 1).trans rfl; have hcz6_2 : w5.cell? ⟨gb134, 2, none⟩ = some (.slice A0_2 l0_2.length c0_2) := (blk_cell BK134.out 2).trans rfl; have hfz6_0 := blk_frozen BK134.out 0; have hfz6_1 := blk_frozen BK134.out 1; have hfz6_2 := blk_frozen BK134.out 2) | (go_at_call 101; (with_reducible refine (spec_l13Rows.calls k a0_0 a0_1 _ _ l0_2 a2 t135 _ ?side1 ?side2 A4.out).mono ?_); (case side1 => repeat (first | exact (Kd.C_below HR0_2.out HB.out) | (with_reducible refine Kd.C_alloc ?_ _) | (with_reducible refine Kd.C_drewN ?_ _) | (with_reducible refine Kd.C_drew ?_))); (case side2 => exact HC0_2.out); rintro e w7 ⟨v136, rfl, ho0, hb⟩; have n0_ := A0_ (Kd.R_lower ho0 (below_size (by repeat (first | (with_reducible first | exact HB.out | apply ba_ | apply bn_ | apply bd_ | refine below_set ?_ GE134.out) | exact HB.out)))); have n1_ := A0_ (blk_below (g := gb134) (o := .cells #[.int .i64 a0_0, .int .i64 a0_1, .slice A0_2 l0_2.length c0_2] 28 (0, 0)) (by (with_reducible repeat (first | apply gn_ | apply gd_ | apply ga_)); exact BK134.out) hb); have n2_ := A0_ (below_step (by repeat (first | (with_reducible first | exact HB.out | apply ba_ | apply bn_ | apply bd_ | refine below_set ?_ GE134.out) | exact HB.out)) hb); clear BK134; clear HB; have HO137 := n0_; have BK134 := n1_; have HB := n2_; clear n0_ n1_ n2_; (try clear hb); (try clear hb2); (try clear hk); (try clear hi); (try clear ho0)) | ((with_reducible refine gate_dst (N := 16) rfl ?_); refine Kd.R_lit (Kd.int .i64) _ 2 ?hg (N := 16) ?hd (xs := ([] : List Int)) (inner := []) (ok := fun _ => True) (okp := fun _ => True) ?hr ?hp (fun _ hk => hk) trivial (Below.refl _ _) (Nat.le_refl _) (by simp) ?_; (case hd => rfl); (case hg => rfl); (case hr => first | (go_simp; done) | (go_simp; rfl)); (case hp => exact (Reps.none _ _)); intro v139 w8 ho9 hb hg_ hnew_; clear hg_ hnew_; (first | rw [← Ny138.out] at ho9 | (simp only [Int.reduceToNat] at ho9; rw [← Ny138.out] at ho9)); have n0_ := A0_ (Kd.R_elder' (by (with_reducible repeat (first | apply Ra_ | apply Rn_ | apply Rd_)); exact HO137.out) (Kd.R_base ho9) hb); have n1_ := A0_ (Kd.R_lower (Kd.R_new' ho9 (Kd.R_lt (by (with_reducible repeat (first | apply Ra_ | apply Rn_ | apply Rd_)); exact HO137.out))) (below_size (by repeat (first | (with_reducible first | exact HB.out | apply ba_ | apply bn_ | apply bd_ | refine below_set ?_ GE134.out) | exact HB.out)))); have n2_ := A0_ (blk_below (g := gb134) (o := .cells #[.int .i64 a0_0, .int .i64 a0_1, .slice A0_2 l0_2.length c0_2] 28 (0, 0)) (by (with_reducible repeat (first | apply gn_ | apply gd_ | apply ga_)); exact BK134.out) hb); have n3_ := A0_ (below_step (by repeat (first | (with_reducible first | exact HB.out | apply ba_ | apply bn_ | apply bd_ | refine below_set ?_ GE134.out) | exact HB.out)) hb); clear HO137; clear BK134; clear HB; have HO137 := n0_; have HO140 := n1_; have BK134 := n2_; have HB := n3_; clear n0_ n1_ n2_ n3_; clear hb ho9)); try go_wp2_with (first | ((with_reducible refine gate_dst (N := 3) rfl ?_); refine box_event ?hg (N := 3) ?hd (cs := #[.int .i64 a0_0, .int .i64 a0_1, .slice A0_2 l0_2.length c0_2]) (t := 28) ?hr ?_; (case hd => rfl); (case hg => rfl); (case hr => first | (go_simp; done) | (go_simp; rfl)); intro gb134 hg w5 hbox hb; have n0_ := A0_ (below_step (by repeat (first | (with_reducible first | exact HB.out | apply ba_ | apply bn_ | apply bd_) | exact HB.out)) hb); have n1_ := A0_ (hbox); have n2_ := A0_ ((by rw [hg]; exact (below_size (by repeat (first | (with_reducible first | exact HB.out | apply ba_ | apply bn_ | apply bd_) | exact HB.out))) : w.heap.size ≤ gb134)); have n3_ := A0_ ((by rw [hg]; exact (below_size (by repeat (first | (with_reducible first | exact HB.out | apply ba_ | apply bn_ | apply bd_) | exact HB.out))) : w.heap.size ≤ gb134)); clear HB; have HB := n0_; have BK134 := n1_; have GW134 := n2_; have GE134 := n3_; clear n0_ n1_ n2_ n3_; clear hb hbox hg; have hcz6_0 : w5.cell? ⟨gb134, 0, none⟩ = some (.int .i64 a0_0) := (blk_cell BK134.out 0).trans rfl; have hcz6_1 : w5.cell? ⟨gb134, 1, none⟩ = some (.int .i64 a0_1) := (blk_cell BK134.out 1).trans rfl; have hcz6_2 : w5.cell? ⟨gb134, 2, none⟩ = some (.slice A0_2 l0_2.length c0_2) := (blk_cell BK134.out 2).trans rfl; have hfz6_0 := blk_frozen BK134.out 0; have hfz6_1 := blk_frozen BK134.out 1; have hfz6_2 := blk_frozen BK134.out 2) | (go_at_call 101; (with_reducible refine (spec_l13Rows.calls k a0_0 a0_1 _ _ l0_2 a2 t135 _ ?side1 ?side2 A4.out).mono ?_); (case side1 => repeat (first | exact (Kd.C_below HR0_2.out HB.out) | (with_reducible refine Kd.C_alloc ?_ _) | (with_reducible refine Kd.C_drewN ?_ _) | (with_reducible refine Kd.C_drew ?_))); (case side2 => exact HC0_2.out); rintro e w7 ⟨v136, rfl, ho0, hb⟩; have n0_ := A0_ (Kd.R_lower ho0 (below_size (by repeat (first | (with_reducible first | exact HB.out | apply ba_ | apply bn_ | apply bd_ | refine below_set ?_ GE134.out) | exact HB.out)))); have n1_ := A0_ (blk_below (g := gb134) (o := .cells #[.int .i64 a0_0, .int .i64 a0_1, .slice A0_2 l0_2.length c0_2] 28 (0, 0)) (by (with_reducible repeat (first | apply gn_ | apply gd_ | apply ga_)); exact BK134.out) hb); have n2_ := A0_ (below_step (by repeat (first | (with_reducible first | exact HB.out | apply ba_ | apply bn_ | apply bd_ | refine below_set ?_ GE134.out) | exact HB.out)) hb); clear BK134; clear HB; have HO137 := n0_; have BK134 := n1_; have HB := n2_; clear n0_ n1_ n2_; (try clear hb); (try clear hb2); (try clear hk); (try clear hi); (try clear ho0)) | ((with_reducible refine gate_dst (N := 16) rfl ?_); refine Kd.R_lit (Kd.int .i64) _ 2 ?hg (N := 16) ?hd (xs := ([] : List Int)) (inner := []) (ok := fun _ => True) (okp := fun _ => True) ?hr ?hp (fun _ hk => hk) trivial (Below.refl _ _) (Nat.le_refl _) (by simp) ?_; (case hd => rfl); (case hg => rfl); (case hr => first | (go_simp; done) | (go_simp; rfl)); (case hp => exact (Reps.none _ _)); intro v139 w8 ho9 hb hg_ hnew_; clear hg_ hnew_; (first | rw [← Ny138.out] at ho9 | (simp only [Int.reduceToNat] at ho9; rw [← Ny138.out] at ho9)); have n0_ := A0_ (Kd.R_elder' (by (with_reducible repeat (first | apply Ra_ | apply Rn_ | apply Rd_)); exact HO137.out) (Kd.R_base ho9) hb); have n1_ := A0_ (Kd.R_lower (Kd.R_new' ho9 (Kd.R_lt (by (with_reducible repeat (first | apply Ra_ | apply Rn_ | apply Rd_)); exact HO137.out))) (below_size (by repeat (first | (with_reducible first | exact HB.out | apply ba_ | apply bn_ | apply bd_ | refine below_set ?_ GE134.out) | exact HB.out)))); have n2_ := A0_ (blk_below (g := gb134) (o := .cells #[.int .i64 a0_0, .int .i64 a0_1, .slice A0_2 l0_2.length c0_2] 28 (0, 0)) (by (with_reducible repeat (first | apply gn_ | apply gd_ | apply ga_)); exact BK134.out) hb); have n3_ := A0_ (below_step (by repeat (first | (with_reducible first | exact HB.out | apply ba_ | apply bn_ | apply bd_ | refine below_set ?_ GE134.out) | exact HB.out)) hb); clear HO137; clear BK134; clear HB; have HO137 := n0_; have HO140 := n1_; have BK134 := n2_; have HB := n3_; clear n0_ n1_ n2_ n3_; clear hb ho9)))
 go_loopg [8, 9] k (fun kq v8 v9 w' => ∃ (x8_1 : List Int) (x9_1 : Int), v9 = .int .i64 x9_1 ∧ Aside0 (spec_l14Open.l0 kq l1 t135 x8_1 x9_1 a0_0 a0_1 l0_2 = some r) ∧ Aside0 (kq ≤ k) ∧ Aside0 (Kd.R (Kd.int .i64) 2 w' w.heap.size (fun k_ => some k_ ≠ (v8 : Value).ownBlock) v136 t135) ∧ Aside0 (Kd.R (Kd.int .i64) 2 w' w.heap.size (fun k_ => some k_ ≠ (v136 : Value).ownBlock) v8 x8_1) ∧ Aside0 (w'.heap[gb134]? = some (.cells #[.int .i64 a0_0, .int .i64 a0_1, (.slice A0_2 l0_2.length c0_2)] 28 (0, 0))) ∧ Aside0 (Below w.heap.size w w'))
 case atStart => exact ⟨(y138), (0), (by first | rfl | (simp; done) | (simp [*]; done)), H', ⟨Nat.le_refl _⟩, ⟨by (with_reducible repeat (first | apply Ra_ | apply Rn_ | apply Rd_)); exact Kd.R_mono HO137.out (fun _ hk => hk.2)⟩, ⟨by (with_reducible repeat (first | apply Ra_ | apply Rn_ | apply Rd_)); exact Kd.R_mono HO140.out (fun _ hk => hk.2)⟩, ⟨by (with_reducible repeat (first | apply gn_ | apply gd_ | apply ga_)); exact BK134.out⟩, ⟨by repeat (first | (with_reducible first | exact HB.out | apply ba_ | apply bn_ | apply bd_ | refine below_set ?_ GE134.out) | exact HB.out)⟩⟩
 case round =>
  clear H'; (try clear c1); (try clear p2); (try clear c8); (try clear hcz6_0 hcz6_1 hcz6_2); (try clear hfz6_0 hfz6_1 hfz6_2); (obtain ⟨x8_1, x9_1, rfl, HA, HK1, HO_7, HO_8, BK134, HB⟩ := hrel)
  cases gk with
  | zero => exact absurd HA.out (by simp [spec_l14Open.l0])
  | succ k1 =>
   (have H := HA.out); clear HA; (simp only [spec_l14Open.l0] at H); (by_cases c10 : x9_1 < (t135.length : Int))
   ·(rw [if_pos c10] at H); (have c10b0 : decide (x9_1 < (t135.length : Int)) = true := decide_eq_true c10); clear c10; (by_cases c11 : 0 ≤ x9_1)
    ·(rw [if_pos c11] at H); (have c11b0 : decide (0 ≤ x9_1) = true := decide_eq_true c11); clear c11; (by_cases c12 : 0 ≤ (rd t135 x9_1))
     ·(rw [if_pos c12] at H); (have c12b0 : decide (0 ≤ (rd t135 x9_1)) = true := decide_eq_true c12); clear c12; (by_cases c13 : (rd t135 x9_1) < (l0_2.length : Int))
      ·(rw [if_pos c13] at H); (have c13b0 : decide ((rd t135 x9_1) < (l0_2.length : Int)) = true := decide_eq_true c13); clear c13; (have H' := A0_ H); clear H; (obtain ⟨Ao14, co14, eo14⟩ := Kd.R_slice HO_7.out); subst eo14; (have hcz15_0 : wr.cell? ⟨gb134, 0, none⟩ = some (.int .i64 a0_0) := (blk_cell BK134.out 0).trans rfl); (have hcz15_1 : wr.cell? ⟨gb134, 1, none⟩ = some (.int .i64 a0_1) := (blk_cell BK134.out 1).trans rfl); (have hcz15_2 : wr.cell? ⟨gb134, 2, none⟩ = some (.slice A0_2 l0_2.length c0_2) := (blk_cell BK134.out 2).trans rfl); (have hfz15_0 := blk_frozen BK134.out 0); (have hfz15_1 := blk_frozen BK134.out 1); (have hfz15_2 := blk_frozen BK134.out 2); (have p141 : 0 ≤ (x9_1 : Int) := of_decide_eq_true (by first | (with_reducible assumption) | assumption)); (have q141 : x9_1 < (t135.length : Int) := of_decide_eq_true (by first | (with_reducible assumption) | assumption)); (obtain ⟨ad141, e141, hx141_0⟩ := Kd.at_int (Kd.R_reads' HO_7.out).2.2 x9_1 p141 q141); (cases e141); (replace p141 := eq_true p141); (replace q141 := eq_true q141); (have p142 : 0 ≤ ((rd t135 x9_1) : Int) := of_decide_eq_true (by first | (with_reducible assumption) | assumption)); (have q142 : (rd t135 x9_1) < (l0_2.length : Int) := of_decide_eq_true (by first | (with_reducible assumption) | assumption)); (obtain ⟨ad142, A142_0, c142_0, e142, hx142_0, hl142_0, hi142_0⟩ := at_L1 HR0_2.out (rd t135 x9_1) p142 q142); (cases e142); (replace hx142_0 := (HB.out.cell (World.block_lt_of_cell? w _ hx142_0)).trans hx142_0); (have HR142_0 := A0_ hi142_0); (have HC142_0 := A0_ hl142_0); clear hi142_0 hl142_0; (replace p142 := eq_true p142); (replace q142 := eq_true q142); go_wp2; (repeat (go_quiet (fail); try go_wp2))
       go_loopg [10, 12] k1 (fun kq v10 v12 w' => ∃ (x10_2 : Bool) (x12_2 : Int), v10 = .bool x10_2 ∧ v12 = .int .i64 x12_2 ∧ Aside0 (spec_l14Open.l1 kq l1 t135 x8_1 x9_1 x10_2 (rd_L1 l0_2 (rd t135 x9_1)) x12_2 a0_0 a0_1 l0_2 = some r) ∧ Aside0 (kq ≤ k1) ∧ Aside0 (Kd.R (Kd.int .i64) 2 w' w.heap.size (fun k_ => some k_ ≠ (u8 : Value).ownBlock) (.slice (some ad141) t135.length co14) t135) ∧ Aside0 (Kd.R (Kd.int .i64) 2 w' w.heap.size (fun k_ => some k_ ≠ ((.slice (some ad141) t135.length co14) : Value).ownBlock) u8 x8_1) ∧ Aside0 (w'.heap[gb134]? = some (.cells #[.int .i64 a0_0, .int .i64 a0_1, (.slice (some ad142) l0_2.length c0_2)] 28 (0, 0))) ∧ Aside0 (Below w.heap.size w w'))
       case atStart => exact ⟨(true), (0), (by first | rfl | (simp; done) | (simp [*]; done)), (by first | rfl | (simp; done) | (simp [*]; done)), H', ⟨Nat.le_refl _⟩, ⟨by (with_reducible repeat (first | apply Ra_ | apply Rn_ | apply Rd_)); exact HO_7.out⟩, ⟨by (with_reducible repeat (first | apply Ra_ | apply Rn_ | apply Rd_)); exact HO_8.out⟩, ⟨by (with_reducible repeat (first | apply gn_ | apply gd_ | apply ga_)); exact BK134.out⟩, ⟨by repeat (first | (with_reducible first | exact HB.out | apply ba_ | apply bn_ | apply bd_ | refine below_set ?_ GE134.out) | exact HB.out)⟩⟩
       case round =>
        clear H'; (try clear c1); (try clear p1); (try clear q1); (try clear hx1); (try clear p2); (try clear c8); (try clear c10); (try clear c10b0); (try clear c11); (try clear c11b0); (try clear c12); (try clear c12b0); (try clear c13); (try clear c13b0); (try clear c14); (try clear p14); (try clear q14); (try clear hx14); (try clear hcz15_0 hcz15_1 hcz15_2); (try clear hcz6_0 hcz6_1 hcz6_2); (try clear hfz15_0 hfz15_1 hfz15_2); (try clear hfz6_0 hfz6_1 hfz6_2); (try clear hx141_0); (try clear hx142_0); (try clear p141); (try clear p142); (try clear p2); (try clear q141); (try clear q142); (obtain ⟨x10_2, x12_2, rfl, rfl, HA, HK2, HO_7, HO_8, BK134, HB⟩ := hrel)
        cases gk with
        | zero => exact absurd HA.out (by simp [spec_l14Open.l1])
        | succ k2 =>
         (have H := HA.out); clear HA; (simp only [spec_l14Open.l1] at H); (by_cases c16 : x12_2 < ((rd_L1 l0_2 (rd t135 x9_1)).length : Int))
         ·(rw [if_pos c16] at H); (have c16b0 : decide (x12_2 < ((rd_L1 l0_2 (rd t135 x9_1)).length : Int)) = true := decide_eq_true c16); clear c16; (by_cases c17 : x10_2 = true)
          ·subst c17; (have H1 := H); (rw [if_pos rfl] at H1); clear H; (have H := H1); clear H1; (by_cases c18 : 0 ≤ x12_2)
           ·(rw [if_pos c18] at H); (have c18b0 : decide (0 ≤ x12_2) = true := decide_eq_true c18); clear c18; (by_cases c19 : 0 ≤ (rd (rd_L1 l0_2 (rd t135 x9_1)) x12_2))
            ·(rw [if_pos c19] at H); (have c19b0 : decide (0 ≤ (rd (rd_L1 l0_2 (rd t135 x9_1)) x12_2)) = true := decide_eq_true c19); clear c19; (by_cases c20 : (rd (rd_L1 l0_2 (rd t135 x9_1)) x12_2) < (l1.length : Int))
             ·(rw [if_pos c20] at H); (have c20b0 : decide ((rd (rd_L1 l0_2 (rd t135 x9_1)) x12_2) < (l1.length : Int)) = true := decide_eq_true c20); clear c20; (have H' := A0_ H); clear H; (have p143 : 0 ≤ (x12_2 : Int) := of_decide_eq_true (by first | (with_reducible assumption) | assumption)); (have q143 : x12_2 < ((rd_L1 l0_2 (rd t135 x9_1)).length : Int) := of_decide_eq_true (by first | (with_reducible assumption) | assumption)); (obtain ⟨ad143, e143, hx143_0⟩ := Kd.at_int HR142_0.out x12_2 p143 q143); (cases e143); (replace hx143_0 := (HB.out.cell (World.block_lt_of_cell? w _ hx143_0)).trans hx143_0); (replace p143 := eq_true p143); (replace q143 := eq_true q143); (have p144 : 0 ≤ ((rd (rd_L1 l0_2 (rd t135 x9_1)) x12_2) : Int) := of_decide_eq_true (by first | (with_reducible assumption) | assumption)); (have q144 : (rd (rd_L1 l0_2 (rd t135 x9_1)) x12_2) < (l1.length : Int) := of_decide_eq_true (by first | (with_reducible assumption) | assumption)); (obtain ⟨ad144, e144, hx144_0⟩ := Kd.at_int HR1.out (rd (rd_L1 l0_2 (rd t135 x9_1)) x12_2) p144 q144); (cases e144); (replace hx144_0 := (HB.out.cell (World.block_lt_of_cell? w _ hx144_0)).trans hx144_0); (replace p144 := eq_true p144); (replace q144 := eq_true q144); go_wp2; (repeat (go_quiet (fail); try go_wp2)); (go_roundg k2)
              case measure => have := HK1.out; have := HK2.out; omega
              case rel => exact ⟨(((rd l1 (rd (rd_L1 l0_2 (rd t135 x9_1)) x12_2)) == 0)), (wrap64 (x12_2 + 1)), (by first | rfl | (simp; done) | (simp [*]; done)), (by first | rfl | (simp; done) | (simp [*]; done)), H', ⟨by have := HK1.out; have := HK2.out; omega⟩, ⟨by (with_reducible repeat (first | apply Ra_ | apply Rn_ | apply Rd_)); exact HO_7.out⟩, ⟨by (with_reducible repeat (first | apply Ra_ | apply Rn_ | apply Rd_)); exact HO_8.out⟩, ⟨by (with_reducible repeat (first | apply gn_ | apply gd_ | apply ga_)); exact BK134.out⟩, ⟨by repeat (first | (with_reducible first | exact HB.out | apply ba_ | apply bn_ | apply bd_ | refine below_set ?_ GE134.out) | exact HB.out)⟩⟩
             ·(rw [if_neg c20] at H); (exact absurd H (by simp))
            ·(rw [if_neg c19] at H); (exact absurd H (by simp))
           ·(rw [if_neg c18] at H); (exact absurd H (by simp))
          ·(replace c17 := Bool.eq_false_iff.mpr c17); subst c17; (have H1 : (spec_l14Open.l1 k2 l1 t135 x8_1 x9_1 false (rd_L1 l0_2 (rd t135 x9_1)) (wrap64 (x12_2 + 1)) a0_0 a0_1 l0_2) = some r := by rw [if_neg (show ¬ (false = true) by decide)] at H; exact H); clear H; (have H := H1); clear H1; (have H' := A0_ H); clear H; go_wp2; (repeat (go_quiet (fail); try go_wp2)); (go_roundg k2)
           case measure => have := HK1.out; have := HK2.out; omega
           case rel => exact ⟨(false), (wrap64 (x12_2 + 1)), (by first | rfl | (simp; done) | (simp [*]; done)), (by first | rfl | (simp; done) | (simp [*]; done)), H', ⟨by have := HK1.out; have := HK2.out; omega⟩, ⟨by (with_reducible repeat (first | apply Ra_ | apply Rn_ | apply Rd_)); exact HO_7.out⟩, ⟨by (with_reducible repeat (first | apply Ra_ | apply Rn_ | apply Rd_)); exact HO_8.out⟩, ⟨by (with_reducible repeat (first | apply gn_ | apply gd_ | apply ga_)); exact BK134.out⟩, ⟨by repeat (first | (with_reducible first | exact HB.out | apply ba_ | apply bn_ | apply bd_ | refine below_set ?_ GE134.out) | exact HB.out)⟩⟩
         ·(rw [if_neg c16] at H); (have c16b0 : decide (x12_2 < ((rd_L1 l0_2 (rd t135 x9_1)).length : Int)) = false := decide_eq_false c16); clear c16; (by_cases c21 : x10_2 = true)
          ·subst c21; (have H1 := H); (rw [if_pos rfl] at H1); clear H; (have H := H1); clear H1; (by_cases c22 : 0 ≤ x9_1)
           ·(rw [if_pos c22] at H); (have c22b0 : decide (0 ≤ x9_1) = true := decide_eq_true c22); clear c22; (by_cases c23 : x9_1 < (t135.length : Int))
            ·(rw [if_pos c23] at H); (have c23b0 : decide (x9_1 < (t135.length : Int)) = true := decide_eq_true c23); clear c23; (by_cases c24 : x8_1.length < 17592186044416)
             ·(rw [if_pos c24] at H); (have LMc24 := A0_ c24); clear c24; (obtain ⟨y146, hy146⟩ : ∃ y_ : List Int, y_ = (x8_1 ++ [rd t135 x9_1]) := ⟨_, rfl⟩); (replace H : (spec_l14Open.l0 k2 l1 t135 y146 (wrap64 (x9_1 + 1)) a0_0 a0_1 l0_2) = some r := by first | (rw [hy146]; with_reducible exact H) | (have H2_ := (Option.bind_some _ _).symm.trans H; rw [hy146]; with_reducible exact H2_) | (have H2_ := (Option.bind_some _ _).symm.trans H; with_reducible exact H2_) | with_reducible exact H | (rw [hy146]; exact H) | exact H); (have Ny146 := A0_ hy146); clear hy146; (have H' := A0_ H); clear H; (have p145 : 0 ≤ (x9_1 : Int) := of_decide_eq_true (by first | (with_reducible assumption) | assumption)); (have q145 : x9_1 < (t135.length : Int) := of_decide_eq_true (by first | (with_reducible assumption) | assumption)); (obtain ⟨ad145, e145, hx145_0⟩ := Kd.at_int (Kd.R_reads' HO_7.out).2.2 x9_1 p145 q145); (obtain rfl : ad141 = ad145 := (by injection e145)); (replace p145 := eq_true p145); (replace q145 := eq_true q145)
              go_wp2_with (first | ((with_reducible refine gate_builtin (b := .append) (xs := #[.tmp 49, .tmp 54]) rfl ?_); at_builtin; refine Kd.R_append (Kd.int .i64) (w0 := w) w.heap.size rfl (.tmp 49) (.tmp 54) 32 2 (.int .i64 0) 8 rfl Tryd.underlying32 info2 rfl (by decide) (by omega) u8 x8_1 (rd t135 x9_1) [.int .i64 (rd t135 x9_1)] (fun k_ => some k_ ≠ (.slice (some ad141) t135.length co14 : Value).ownBlock) (fun _ => False) rfl rfl ?aP (fun _ hk => hk.elim) ?aF ?aO ?aB ?aS ?aL ?_; (case aP => exact rfl); (case aB => exact (by repeat (first | (with_reducible first | exact HB.out | apply ba_ | apply bn_ | apply bd_ | refine below_set ?_ GE134.out) | exact HB.out))); (case aF => exact (fun k_ hk => Kd.fresh' (Kd.R_lt (by (with_reducible repeat (first | apply Ra_ | apply Rn_ | apply Rd_)); exact HO_7.out)) k_ hk)); (case aO => exact (by (with_reducible repeat (first | apply Ra_ | apply Rn_ | apply Rd_)); exact HO_8.out)); (case aS => exact (below_size (by repeat (first | (with_reducible first | exact HB.out | apply ba_ | apply bn_ | apply bd_ | refine below_set ?_ GE134.out) | exact HB.out)))); (case aL => have := LMc24.out; omega); intro v147 w25 ho hb hg hat; rw [← Ny146.out] at ho; have n0_ := A0_ (Kd.R_after (ok := (fun _ => True)) (by (with_reducible repeat (first | apply Ra_ | apply Rn_ | apply Rd_)); exact Kd.R_mono HO_7.out (fun _ hk => ⟨trivial, hk⟩)) hg hat); have n1_ := A0_ (blk_grown (g := gb134) (o := .cells #[.int .i64 a0_0, .int .i64 a0_1, .slice (some ad142) l0_2.length c0_2] 28 (0, 0)) (by (with_reducible repeat (first | apply gn_ | apply gd_ | apply ga_)); exact BK134.out) hg (Kd.R_ne HO_8.out BK134.out (by decide))); have n2_ := A0_ (hb); have n3_ := A0_ (ho); clear HO_7; clear BK134; clear HB; clear HO_8; have HO_7 := n0_; have BK134 := n1_; have HB := n2_; have HO148 := n3_; clear n0_ n1_ n2_ n3_; clear ho hb hg hat))
              repeat (go_quiet (first | ((with_reducible refine gate_builtin (b := .append) (xs := #[.tmp 49, .tmp 54]) rfl ?_); at_builtin; refine Kd.R_append (Kd.int .i64) (w0 := w) w.heap.size rfl (.tmp 49) (.tmp 54) 32 2 (.int .i64 0) 8 rfl Tryd.underlying32 info2 rfl (by decide) (by omega) u8 x8_1 (rd t135 x9_1) [.int .i64 (rd t135 x9_1)] (fun k_ => some k_ ≠ (.slice (some ad141) t135.length co14 : Value).ownBlock) (fun _ => False) rfl rfl ?aP (fun _ hk => hk.elim) ?aF ?aO ?aB ?aS ?aL ?_; (case aP => exact rfl); (case aB => exact (by repeat (first | (with_reducible first | exact HB.out | apply ba_ | apply bn_ | apply bd_ | refine below_set ?_ GE134.out) | exact HB.out))); (case aF => exact (fun k_ hk => Kd.fresh' (Kd.R_lt (by (with_reducible repeat (first | apply Ra_ | apply Rn_ | apply Rd_)); exact HO_7.out)) k_ hk)); (case aO => exact (by (with_reducible repeat (first | apply Ra_ | apply Rn_ | apply Rd_)); exact HO_8.out)); (case aS => exact (below_size (by repeat (first | (with_reducible first | exact HB.out | apply ba_ | apply bn_ | apply bd_ | refine below_set ?_ GE134.out) | exact HB.out)))); (case aL => have := LMc24.out; omega); intro v147 w25 ho hb hg hat; rw [← Ny146.out] at ho; have n0_ := A0_ (Kd.R_after (ok := (fun _ => True)) (by (with_reducible repeat (first | apply Ra_ | apply Rn_ | apply Rd_)); exact Kd.R_mono HO_7.out (fun _ hk => ⟨trivial, hk⟩)) hg hat); have n1_ := A0_ (blk_grown (g := gb134) (o := .cells #[.int .i64 a0_0, .int .i64 a0_1, .slice (some ad142) l0_2.length c0_2] 28 (0, 0)) (by (with_reducible repeat (first | apply gn_ | apply gd_ | apply ga_)); exact BK134.out) hg (Kd.R_ne HO_8.out BK134.out (by decide))); have n2_ := A0_ (hb); have n3_ := A0_ (ho); clear HO_7; clear BK134; clear HB; clear HO_8; have HO_7 := n0_; have BK134 := n1_; have HB := n2_; have HO148 := n3_; clear n0_ n1_ n2_ n3_; clear ho hb hg hat)); try go_wp2_with (first | ((with_reducible refine gate_builtin (b := .append) (xs := #[.tmp 49, .tmp 54]) rfl ?_); at_builtin; refine Kd.R_append (Kd.int .i64) (w0 := w) w.heap.size rfl (.tmp 49) (.tmp 54) 32 2 (.int .i64 0) 8 rfl Tryd.underlying32 info2 rfl (by decide) (by omega) u8 x8_1 (rd t135 x9_1) [.int .i64 (rd t135 x9_1)] (fun k_ => some k_ ≠ (.slice (some ad141) t135.length co14 : Value).ownBlock) (fun _ => False) rfl rfl ?aP (fun _ hk => hk.elim) ?aF ?aO ?aB ?aS ?aL ?_; (case aP => exact rfl); (case aB => exact (by repeat (first | (with_reducible first | exact HB.out | apply ba_ | apply bn_ | apply bd_ | refine below_set ?_ GE134.out) | exact HB.out))); (case aF => exact (fun k_ hk => Kd.fresh' (Kd.R_lt (by (with_reducible repeat (first | apply Ra_ | apply Rn_ | apply Rd_)); exact HO_7.out)) k_ hk)); (case aO => exact (by (with_reducible repeat (first | apply Ra_ | apply Rn_ | apply Rd_)); exact HO_8.out)); (case aS => exact (below_size (by repeat (first | (with_reducible first | exact HB.out | apply ba_ | apply bn_ | apply bd_ | refine below_set ?_ GE134.out) | exact HB.out)))); (case aL => have := LMc24.out; omega); intro v147 w25 ho hb hg hat; rw [← Ny146.out] at ho; have n0_ := A0_ (Kd.R_after (ok := (fun _ => True)) (by (with_reducible repeat (first | apply Ra_ | apply Rn_ | apply Rd_)); exact Kd.R_mono HO_7.out (fun _ hk => ⟨trivial, hk⟩)) hg hat); have n1_ := A0_ (blk_grown (g := gb134) (o := .cells #[.int .i64 a0_0, .int .i64 a0_1, .slice (some ad142) l0_2.length c0_2] 28 (0, 0)) (by (with_reducible repeat (first | apply gn_ | apply gd_ | apply ga_)); exact BK134.out) hg (Kd.R_ne HO_8.out BK134.out (by decide))); have n2_ := A0_ (hb); have n3_ := A0_ (ho); clear HO_7; clear BK134; clear HB; clear HO_8; have HO_7 := n0_; have BK134 := n1_; have HB := n2_; have HO148 := n3_; clear n0_ n1_ n2_ n3_; clear ho hb hg hat)))
              (go_roundg k2)
              case measure => have := HK1.out; have := HK2.out; omega
              case rel => exact ⟨(y146), (wrap64 (x9_1 + 1)), (by first | rfl | (simp; done) | (simp [*]; done)), H', ⟨by have := HK1.out; have := HK2.out; omega⟩, ⟨by (with_reducible repeat (first | apply Ra_ | apply Rn_ | apply Rd_)); exact Kd.R_mono HO_7.out (fun _ hk => hk.2)⟩, ⟨by (with_reducible repeat (first | apply Ra_ | apply Rn_ | apply Rd_)); exact HO148.out⟩, ⟨by (with_reducible repeat (first | apply gn_ | apply gd_ | apply ga_)); exact BK134.out⟩, ⟨by repeat (first | (with_reducible first | exact HB.out | apply ba_ | apply bn_ | apply bd_ | refine below_set ?_ GE134.out) | exact HB.out)⟩⟩
             ·(rw [if_neg c24] at H); (exact absurd H (by simp))
            ·(rw [if_neg c23] at H); (exact absurd H (by simp))
           ·(rw [if_neg c22] at H); (exact absurd H (by simp))
          ·(replace c21 := Bool.eq_false_iff.mpr c21); subst c21; (have H1 : (spec_l14Open.l0 k2 l1 t135 x8_1 (wrap64 (x9_1 + 1)) a0_0 a0_1 l0_2) = some r := by rw [if_neg (show ¬ (false = true) by decide)] at H; exact H); clear H; (have H := H1); clear H1; (have H' := A0_ H); clear H; go_wp2; (repeat (go_quiet (fail); try go_wp2)); (go_roundg k2)
           case measure => have := HK1.out; have := HK2.out; omega
           case rel => exact ⟨(x8_1), (wrap64 (x9_1 + 1)), (by first | rfl | (simp; done) | (simp [*]; done)), H', ⟨by have := HK1.out; have := HK2.out; omega⟩, ⟨by (with_reducible repeat (first | apply Ra_ | apply Rn_ | apply Rd_)); exact HO_7.out⟩, ⟨by (with_reducible repeat (first | apply Ra_ | apply Rn_ | apply Rd_)); exact HO_8.out⟩, ⟨by (with_reducible repeat (first | apply gn_ | apply gd_ | apply ga_)); exact BK134.out⟩, ⟨by repeat (first | (with_reducible first | exact HB.out | apply ba_ | apply bn_ | apply bd_ | refine below_set ?_ GE134.out) | exact HB.out)⟩⟩
      ·(rw [if_neg c13] at H); (exact absurd H (by simp))
     ·(rw [if_neg c12] at H); (exact absurd H (by simp))
    ·(rw [if_neg c11] at H); (exact absurd H (by simp))
   ·(rw [if_neg c10] at H); (have c10b0 : decide (x9_1 < (t135.length : Int)) = false := decide_eq_false c10); clear c10; (obtain rfl := Option.some.inj H); (obtain ⟨Ao26, co26, eo26⟩ := Kd.R_slice HO_7.out); subst eo26; go_wp2; (repeat (go_quiet (fail); try go_wp2)); go_ret
    exact ⟨_, by first | rfl | (simp [errW_none, errW_some] <;> rfl) | (simp [*, errW_none, errW_some] <;> rfl), by (with_reducible repeat (first | apply Ra_ | apply Rn_ | apply Rd_)); exact Kd.R_mono HO_8.out (fun _ hk => trivial), by repeat (first | (with_reducible first | exact HB.out | apply ba_ | apply bn_ | apply bd_ | refine below_set ?_ GE134.out) | exact HB.out)⟩
end Go.Proofs.YtoglcgnbkibpgaaDoor.A

namespace Go.Proofs.YtoglcgnbkibpgaaDoor.A
open Go.RowKit Go.Proofs.YtoglcgnbkibpgaaDoorW.PrintWords Go.Proofs.YtoglcgnbkibpgaaDoorW.PrintLast Go.Proofs.YtoglcgnbkibpgaaDoorW.PrintMore
attribute [local go_sem] max2_int min2_int max_two min_two max_three min_three max_four min_four   -- for this text's walks alone
set_option linter.unusedVariables false
set_option linter.unusedSimpArgs false
def spec_l14Column.l0 : Nat → List Int → Int → Int → Int → Int → Int → List (List Int) → Option (Int)
  | 0, _, _, _, _, _, _, _ => none
  | k + 1, x5, x6, x7, x8, x150000, x150001, x150002 => if x8 < x150001 then (if 0 ≤ x8 then (if x8 < (x5.length : Int) then (if (rd x5 x8) > 0 then (spec_l14Column.l0 k x5 x6 x7 (wrap64 (x8 + 1)) x150000 x150001 x150002) else ((spec_l14Open.f k x150000 x150001 x150002 x5 x8).bind fun t154 => (if x6 < 0 then (spec_l14Column.l0 k x5 x8 (t154.length : Int) (wrap64 (x8 + 1)) x150000 x150001 x150002) else (if (t154.length : Int) < x7 then (spec_l14Column.l0 k x5 x8 (t154.length : Int) (wrap64 (x8 + 1)) x150000 x150001 x150002) else (spec_l14Column.l0 k x5 x6 x7 (wrap64 (x8 + 1)) x150000 x150001 x150002))))) else (none)) else (none)) else (some x6)
def spec_l14Column.f (k : Nat) (a0_0 : Int) (a0_1 : Int) (l0_2 : List (List Int)) (l1 : List Int) : Option (Int) := (spec_l13Counts.f k a0_0 a0_1 l0_2 l1).bind fun t150 => (spec_l14Column.l0 k t150 (-1) 0 0 a0_0 a0_1 l0_2)
set_option maxHeartbeats 8000000 in
set_option maxRecDepth 100000 in
theorem spec_l14Column.calls (k : Nat) (a0_0 : Int) (a0_1 : Int) (A0_2 : Option Addr) (c0_2 : Nat) (l0_2 : List (List Int)) (A1 : Option Addr) (c1 : Nat) (l1 : List Int) (r : Int) (w : World) (hr0_2 : Kd.C (Kd.slice 2 (Kd.int .i64)) w A0_2 l0_2.length l0_2) (hc0_2 : l0_2.length ≤ c0_2) (hr1 : Kd.C (Kd.int .i64) w A1 l1.length l1) (hc1 : l1.length ≤ c1) (h : spec_l14Column.f k a0_0 a0_1 l0_2 l1 = some r) :
    Calls Tryd.prog 70 #[.agg #[.int .i64 a0_0, .int .i64 a0_1, .slice A0_2 l0_2.length c0_2], .slice A1 l1.length c1] w fun e w' => e = .returned (.int .i64 r) ∧ Below w.heap.size w w' := by
 (have hu28 := Tryd.underlying28); (have HR0_2 := A0_ hr0_2); (have HC0_2 := A0_ hc0_2); clear hr0_2 hc0_2; (have HR1 := A0_ hr1); (have HC1 := A0_ hc1); clear hr1 hc1; (have HB := A0_ (Below.refl w.heap.size w))
 have H : ((spec_l13Counts.f k a0_0 a0_1 l0_2 l1).bind fun t150 => (spec_l14Column.l0 k t150 (-1) 0 0 a0_0 a0_1 l0_2)) = some r := h
 clear h; (replace H := Option.bind_eq_some_iff.mp H); (obtain ⟨t150, A30, H⟩ := H); (try dsimp only at H); (have A3 := A0_ A30); clear A30; (have H0_ := A0_ H); clear H; (go_enter Tryd.func70, Tryd.ntmps70); (go_wp2_with (first | ((with_reducible refine gate_dst (N := 2) rfl ?_); refine box_event ?hg (N := 2) ?hd (cs := #[.int .i64 a0_0, .int .i64 a0_1, .slice A0_2 l0_2.length c0_2]) (t := 28) ?hr ?_; (case hd => rfl); (case hg => rfl); (case hr => first | (go_simp; done) | (go_simp; rfl)); intro gb149 hg w4 hbox hb; have n0_ := A0_ (below_step (by repeat (first | (with_reducible first | exact HB.out | apply ba_ | apply bn_ | apply bd_) | exact HB.out)) hb); have n1_ := A0_ (hbox); have n2_ := A0_ ((by rw [hg]; exact (below_size (by repeat (first | (with_reducible first | exact HB.out | apply ba_ | apply bn_ | apply bd_) | exact HB.out))) : w.heap.size ≤ gb149)); have n3_ := A0_ ((by rw [hg]; exact (below_size (by repeat (first | (with_reducible first | exact HB.out | apply ba_ | apply bn_ | apply bd_) | exact HB.out))) : w.heap.size ≤ gb149)); clear HB; have HB := n0_; have BK149 := n1_; have GW149 := n2_; have GE149 := n3_; clear n0_ n1_ n2_ n3_; clear hb hbox hg; have hcz5_0 : w4.cell? ⟨gb149, 0, none⟩ = some (.int .i64 a0_0) := (blk_cell BK149.out 0).trans rfl; have hcz5_1 : w4.cell? ⟨gb149, 1, none⟩ = some (.int .i64 a0_1) := (blk_cell BK149.out 1).trans rfl; have hcz5_2 : w4.cell? ⟨gb149, 2, none⟩ = some (.slice A0_2 l0_2.length c0_2) := (blk_cell BK149.out 2).trans rfl; have hfz5_0 := blk_frozen BK149.out 0; have hfz5_1 := blk_frozen BK149.out 1; have hfz5_2 := blk_frozen BK149.out 2) | ((with_reducible refine gate_callee (f := 85) rfl ?_); refine goesL_ (some 12) rfl rfl Tryd.func85 (by kernel_rfl) rfl #[.agg #[.int .i64 a0_0, .int .i64 a0_1, .slice A0_2 l0_2.length c0_2], .slice A1 l1.length c1] rfl (by (try simp only [List.map_toArray, List.map_cons, List.map_nil]); first | done | rfl | (simp only [List.length_drop, List.length_take]; rfl)) ?_; (with_reducible refine (spec_l13Counts.calls k a0_0 a0_1 _ _ l0_2 _ _ l1 t150 _ ?side1 ?side2 ?side3 ?side4 A3.out).mono ?_); (case side1 => repeat (first | exact (Kd.C_below HR0_2.out HB.out) | (with_reducible refine Kd.C_alloc ?_ _) | (with_reducible refine Kd.C_drewN ?_ _) | (with_reducible refine Kd.C_drew ?_))); (case side2 => exact HC0_2.out); (case side3 => repeat (first | exact (Kd.C_below HR1.out HB.out) | (with_reducible refine Kd.C_alloc ?_ _) | (with_reducible refine Kd.C_drewN ?_ _) | (with_reducible refine Kd.C_drew ?_))); (case side4 => exact HC1.out); rintro e w6 ⟨v151, rfl, ho0, hb⟩; refine ⟨_, rfl, ?_⟩; have n0_ := A0_ (Kd.R_lower ho0 (below_size (by repeat (first | (with_reducible first | exact HB.out | apply ba_ | apply bn_ | apply bd_ | refine below_set ?_ GE149.out) | exact HB.out)))); have n1_ := A0_ (blk_below (g := gb149) (o := .cells #[.int .i64 a0_0, .int .i64 a0_1, .slice A0_2 l0_2.length c0_2] 28 (0, 0)) (by (with_reducible repeat (first | apply gn_ | apply gd_ | apply ga_)); exact BK149.out) hb); have n2_ := A0_ (below_step (by repeat (first | (with_reducible first | exact HB.out | apply ba_ | apply bn_ | apply bd_ | refine below_set ?_ GE149.out) | exact HB.out)) hb); clear BK149; clear HB; have HO152 := n0_; have BK149 := n1_; have HB := n2_; clear n0_ n1_ n2_; (try clear hb); (try clear hb2); (try clear hk); (try clear hi); (try clear ho0); refine Stop0.out ?_))); (refine Stop0.mk ?_); (have H := H0_.out); clear H0_; (have H' := A0_ H); clear H; go_wp2
 go_loopg [6, 7, 8] k (fun kq v6 v7 v8 w' => ∃ (x6_1 : Int) (x7_1 : Int) (x8_1 : Int), v6 = .int .i64 x6_1 ∧ v7 = .int .i64 x7_1 ∧ v8 = .int .i64 x8_1 ∧ Aside0 (spec_l14Column.l0 kq t150 x6_1 x7_1 x8_1 a0_0 a0_1 l0_2 = some r) ∧ Aside0 (kq ≤ k) ∧ Aside0 (Kd.R (Kd.int .i64) 2 w' w.heap.size (fun _ => True) v151 t150) ∧ Aside0 (w'.heap[gb149]? = some (.cells #[.int .i64 a0_0, .int .i64 a0_1, (.slice A0_2 l0_2.length c0_2)] 28 (0, 0))) ∧ Aside0 (Below w.heap.size w w'))
 case atStart => exact ⟨((-1)), (0), (0), (by first | rfl | (simp; done) | (simp [*]; done)), (by first | rfl | (simp; done) | (simp [*]; done)), (by first | rfl | (simp; done) | (simp [*]; done)), H', ⟨Nat.le_refl _⟩, ⟨by (with_reducible repeat (first | apply Ra_ | apply Rn_ | apply Rd_)); exact HO152.out⟩, ⟨by (with_reducible repeat (first | apply gn_ | apply gd_ | apply ga_)); exact BK149.out⟩, ⟨by repeat (first | (with_reducible first | exact HB.out | apply ba_ | apply bn_ | apply bd_ | refine below_set ?_ GE149.out) | exact HB.out)⟩⟩
 case round =>
  clear H'; (try clear c1); (try clear p2); (try clear hcz5_0 hcz5_1 hcz5_2); (try clear hfz5_0 hfz5_1 hfz5_2); (obtain ⟨x6_1, x7_1, x8_1, rfl, rfl, rfl, HA, HK1, HO_5, BK149, HB⟩ := hrel)
  cases gk with
  | zero => exact absurd HA.out (by simp [spec_l14Column.l0])
  | succ k1 =>
   (have H := HA.out); clear HA; (simp only [spec_l14Column.l0] at H); (by_cases c7 : x8_1 < a0_1)
   ·(rw [if_pos c7] at H); (have c7b0 : decide (x8_1 < a0_1) = true := decide_eq_true c7); clear c7; (by_cases c8 : 0 ≤ x8_1)
    ·(rw [if_pos c8] at H); (have c8b0 : decide (0 ≤ x8_1) = true := decide_eq_true c8); clear c8; (by_cases c9 : x8_1 < (t150.length : Int))
     ·(rw [if_pos c9] at H); (have c9b0 : decide (x8_1 < (t150.length : Int)) = true := decide_eq_true c9); clear c9; (by_cases c10 : (rd t150 x8_1) > 0)
      ·(rw [if_pos c10] at H); (have c10b0 : decide (0 < (rd t150 x8_1)) = true := decide_eq_true c10); clear c10; (have H' := A0_ H); clear H; (have hcz11_0 : wr.cell? ⟨gb149, 0, none⟩ = some (.int .i64 a0_0) := (blk_cell BK149.out 0).trans rfl); (have hcz11_1 : wr.cell? ⟨gb149, 1, none⟩ = some (.int .i64 a0_1) := (blk_cell BK149.out 1).trans rfl); (have hcz11_2 : wr.cell? ⟨gb149, 2, none⟩ = some (.slice A0_2 l0_2.length c0_2) := (blk_cell BK149.out 2).trans rfl); (have hfz11_0 := blk_frozen BK149.out 0); (have hfz11_1 := blk_frozen BK149.out 1); (have hfz11_2 := blk_frozen BK149.out 2); (obtain ⟨Ao12, co12, eo12⟩ := Kd.R_slice HO_5.out); subst eo12; (have p153 : 0 ≤ (x8_1 : Int) := of_decide_eq_true (by first | (with_reducible assumption) | assumption)); (have q153 : x8_1 < (t150.length : Int) := of_decide_eq_true (by first | (with_reducible assumption) | assumption)); (obtain ⟨ad153, e153, hx153_0⟩ := Kd.at_int (Kd.R_reads' HO_5.out).2.2 x8_1 p153 q153); (cases e153); (replace p153 := eq_true p153); (replace q153 := eq_true q153); go_wp2; (go_roundg k1)
       case measure => have := HK1.out; omega
       case rel => exact ⟨(x6_1), (x7_1), (wrap64 (x8_1 + 1)), (by first | rfl | (simp; done) | (simp [*]; done)), (by first | rfl | (simp; done) | (simp [*]; done)), (by first | rfl | (simp; done) | (simp [*]; done)), H', ⟨by have := HK1.out; omega⟩, ⟨by (with_reducible repeat (first | apply Ra_ | apply Rn_ | apply Rd_)); exact HO_5.out⟩, ⟨by (with_reducible repeat (first | apply gn_ | apply gd_ | apply ga_)); exact BK149.out⟩, ⟨by repeat (first | (with_reducible first | exact HB.out | apply ba_ | apply bn_ | apply bd_ | refine below_set ?_ GE149.out) | exact HB.out)⟩⟩
      ·(rw [if_neg c10] at H); (have c10b0 : decide (0 < (rd t150 x8_1)) = false := decide_eq_false c10); clear c10; (replace H := Option.bind_eq_some_iff.mp H); (obtain ⟨t154, A130, H⟩ := H); (try dsimp only at H); (have A13 := A0_ A130); clear A130; (have H0_ := A0_ H); clear H; (have hcz14_0 : wr.cell? ⟨gb149, 0, none⟩ = some (.int .i64 a0_0) := (blk_cell BK149.out 0).trans rfl); (have hcz14_1 : wr.cell? ⟨gb149, 1, none⟩ = some (.int .i64 a0_1) := (blk_cell BK149.out 1).trans rfl); (have hcz14_2 : wr.cell? ⟨gb149, 2, none⟩ = some (.slice A0_2 l0_2.length c0_2) := (blk_cell BK149.out 2).trans rfl); (have hfz14_0 := blk_frozen BK149.out 0); (have hfz14_1 := blk_frozen BK149.out 1); (have hfz14_2 := blk_frozen BK149.out 2); (obtain ⟨Ao15, co15, eo15⟩ := Kd.R_slice HO_5.out); subst eo15; (have p153 : 0 ≤ (x8_1 : Int) := of_decide_eq_true (by first | (with_reducible assumption) | assumption)); (have q153 : x8_1 < (t150.length : Int) := of_decide_eq_true (by first | (with_reducible assumption) | assumption)); (obtain ⟨ad153, e153, hx153_0⟩ := Kd.at_int (Kd.R_reads' HO_5.out).2.2 x8_1 p153 q153); (cases e153); (replace p153 := eq_true p153); (replace q153 := eq_true q153); (go_wp2_with (first | ((with_reducible refine gate_callee (f := 86) rfl ?_); refine goesL_ (some 27) rfl rfl Tryd.func86 (by kernel_rfl) rfl #[.agg #[.int .i64 a0_0, .int .i64 a0_1, .slice A0_2 l0_2.length c0_2], .slice (some ad153) t150.length co15, .int .i64 x8_1] rfl (by (try simp only [List.map_toArray, List.map_cons, List.map_nil]); first | done | rfl | (simp only [List.length_drop, List.length_take]; rfl)) ?_; (with_reducible refine (spec_l14Open.calls k1 a0_0 a0_1 _ _ l0_2 _ _ t150 x8_1 t154 _ ?side1 ?side2 ?side3 ?side4 A13.out).mono ?_); (case side1 => repeat (first | exact (Kd.C_below HR0_2.out HB.out) | (with_reducible refine Kd.C_alloc ?_ _) | (with_reducible refine Kd.C_drewN ?_ _) | (with_reducible refine Kd.C_drew ?_))); (case side2 => exact HC0_2.out); (case side3 => repeat (first | exact (Kd.R_reads' HO_5.out).2.2 | (with_reducible refine Kd.C_alloc ?_ _) | (with_reducible refine Kd.C_drewN ?_ _) | (with_reducible refine Kd.C_drew ?_))); (case side4 => exact (Kd.R_reads' HO_5.out).2.1); rintro e w16 ⟨v155, rfl, ho0, hb⟩; refine ⟨_, rfl, ?_⟩; have n0_ := A0_ (Kd.R_elder' (by (with_reducible repeat (first | apply Ra_ | apply Rn_ | apply Rd_)); exact HO_5.out) (Kd.R_base ho0) hb); have n1_ := A0_ (Kd.R_lower (Kd.R_new' ho0 (Kd.R_lt (by (with_reducible repeat (first | apply Ra_ | apply Rn_ | apply Rd_)); exact HO_5.out))) (below_size (by repeat (first | (with_reducible first | exact HB.out | apply ba_ | apply bn_ | apply bd_ | refine below_set ?_ GE149.out) | exact HB.out)))); have n2_ := A0_ (blk_below (g := gb149) (o := .cells #[.int .i64 a0_0, .int .i64 a0_1, .slice A0_2 l0_2.length c0_2] 28 (0, 0)) (by (with_reducible repeat (first | apply gn_ | apply gd_ | apply ga_)); exact BK149.out) hb); have n3_ := A0_ (below_step (by repeat (first | (with_reducible first | exact HB.out | apply ba_ | apply bn_ | apply bd_ | refine below_set ?_ GE149.out) | exact HB.out)) hb); clear HO_5; clear BK149; clear HB; have HO_5 := n0_; have HO156 := n1_; have BK149 := n2_; have HB := n3_; clear n0_ n1_ n2_ n3_; (try clear hb); (try clear hb2); (try clear hk); (try clear hi); (try clear ho0); refine Stop0.out ?_))); (refine Stop0.mk ?_); (have H := H0_.out); clear H0_; (by_cases c17 : x6_1 < 0)
       ·(rw [if_pos c17] at H); (have c17b0 : decide (x6_1 < 0) = true := decide_eq_true c17); clear c17; (have H' := A0_ H); clear H; (obtain ⟨Ao18, co18, eo18⟩ := Kd.R_slice HO156.out); subst eo18; go_wp2; (go_roundg k1)
        case measure => have := HK1.out; omega
        case rel => exact ⟨(x8_1), ((t154.length : Int)), (wrap64 (x8_1 + 1)), (by first | rfl | (simp; done) | (simp [*]; done)), (by first | rfl | (simp; done) | (simp [*]; done)), (by first | rfl | (simp; done) | (simp [*]; done)), H', ⟨by have := HK1.out; omega⟩, ⟨by (with_reducible repeat (first | apply Ra_ | apply Rn_ | apply Rd_)); exact Kd.R_mono HO_5.out (fun _ hk => trivial)⟩, ⟨by (with_reducible repeat (first | apply gn_ | apply gd_ | apply ga_)); exact BK149.out⟩, ⟨by repeat (first | (with_reducible first | exact HB.out | apply ba_ | apply bn_ | apply bd_ | refine below_set ?_ GE149.out) | exact HB.out)⟩⟩
       ·(rw [if_neg c17] at H); (have c17b0 : decide (x6_1 < 0) = false := decide_eq_false c17); clear c17; (by_cases c19 : (t154.length : Int) < x7_1)
        ·(rw [if_pos c19] at H); (have c19b0 : decide ((t154.length : Int) < x7_1) = true := decide_eq_true c19); clear c19; (have H' := A0_ H); clear H; (obtain ⟨Ao20, co20, eo20⟩ := Kd.R_slice HO156.out); subst eo20; go_wp2; (go_roundg k1)
         case measure => have := HK1.out; omega
         case rel => exact ⟨(x8_1), ((t154.length : Int)), (wrap64 (x8_1 + 1)), (by first | rfl | (simp; done) | (simp [*]; done)), (by first | rfl | (simp; done) | (simp [*]; done)), (by first | rfl | (simp; done) | (simp [*]; done)), H', ⟨by have := HK1.out; omega⟩, ⟨by (with_reducible repeat (first | apply Ra_ | apply Rn_ | apply Rd_)); exact Kd.R_mono HO_5.out (fun _ hk => trivial)⟩, ⟨by (with_reducible repeat (first | apply gn_ | apply gd_ | apply ga_)); exact BK149.out⟩, ⟨by repeat (first | (with_reducible first | exact HB.out | apply ba_ | apply bn_ | apply bd_ | refine below_set ?_ GE149.out) | exact HB.out)⟩⟩
        ·(rw [if_neg c19] at H); (have c19b0 : decide ((t154.length : Int) < x7_1) = false := decide_eq_false c19); clear c19; (have H' := A0_ H); clear H; (obtain ⟨Ao21, co21, eo21⟩ := Kd.R_slice HO156.out); subst eo21; go_wp2; (go_roundg k1)
         case measure => have := HK1.out; omega
         case rel => exact ⟨(x6_1), (x7_1), (wrap64 (x8_1 + 1)), (by first | rfl | (simp; done) | (simp [*]; done)), (by first | rfl | (simp; done) | (simp [*]; done)), (by first | rfl | (simp; done) | (simp [*]; done)), H', ⟨by have := HK1.out; omega⟩, ⟨by (with_reducible repeat (first | apply Ra_ | apply Rn_ | apply Rd_)); exact Kd.R_mono HO_5.out (fun _ hk => trivial)⟩, ⟨by (with_reducible repeat (first | apply gn_ | apply gd_ | apply ga_)); exact BK149.out⟩, ⟨by repeat (first | (with_reducible first | exact HB.out | apply ba_ | apply bn_ | apply bd_ | refine below_set ?_ GE149.out) | exact HB.out)⟩⟩
     ·(rw [if_neg c9] at H); (exact absurd H (by simp))
    ·(rw [if_neg c8] at H); (exact absurd H (by simp))
   ·(rw [if_neg c7] at H); (have c7b0 : decide (x8_1 < a0_1) = false := decide_eq_false c7); clear c7; (obtain rfl := Option.some.inj H); (have hcz22_0 : wr.cell? ⟨gb149, 0, none⟩ = some (.int .i64 a0_0) := (blk_cell BK149.out 0).trans rfl); (have hcz22_1 : wr.cell? ⟨gb149, 1, none⟩ = some (.int .i64 a0_1) := (blk_cell BK149.out 1).trans rfl); (have hcz22_2 : wr.cell? ⟨gb149, 2, none⟩ = some (.slice A0_2 l0_2.length c0_2) := (blk_cell BK149.out 2).trans rfl); (have hfz22_0 := blk_frozen BK149.out 0); (have hfz22_1 := blk_frozen BK149.out 1); (have hfz22_2 := blk_frozen BK149.out 2); go_wp2; go_ret; (exact ⟨by first | rfl | (simp [errW_none, errW_some] <;> rfl) | (simp [*, errW_none, errW_some] <;> rfl), by repeat (first | (with_reducible first | exact HB.out | apply ba_ | apply bn_ | apply bd_ | refine below_set ?_ GE149.out) | exact HB.out)⟩)
end Go.Proofs.YtoglcgnbkibpgaaDoor.A

namespace Go.Proofs.YtoglcgnbkibpgaaDoor.A
open Go.RowKit Go.Proofs.YtoglcgnbkibpgaaDoorW.PrintWords Go.Proofs.YtoglcgnbkibpgaaDoorW.PrintLast Go.Proofs.YtoglcgnbkibpgaaDoorW.PrintMore
attribute [local go_sem] max2_int min2_int max_two min_two max_three min_three max_four min_four   -- for this text's walks alone
set_option linter.unusedVariables false
set_option linter.unusedSimpArgs false
def spec_l01In.f (a0 : Int) (a1 : Int) (a2 : Int) : Option (Bool) := if a0 ≥ a1 then (some (decide (a0 ≤ a2))) else (some false)
set_option maxHeartbeats 8000000 in
set_option maxRecDepth 100000 in
theorem spec_l01In.calls (a0 : Int) (a1 : Int) (a2 : Int) (r : Bool) (w : World) (h : spec_l01In.f a0 a1 a2 = some r) :
    Calls Tryd.prog 73 #[.int .i64 a0, .int .i64 a1, .int .i64 a2] w fun e w' => e = .returned (.bool r) ∧ Drawn0 w w' := by
 (have H : (if a0 ≥ a1 then (some (decide (a0 ≤ a2))) else (some false)) = some r := h); clear h; (by_cases c4 : a0 ≥ a1)
 ·(rw [if_pos c4] at H); (have c4b0 : decide (a1 ≤ a0) = true := decide_eq_true c4); clear c4; (obtain rfl := Option.some.inj H); (go_enter Tryd.func73, Tryd.ntmps73); go_wp2; go_ret; (exact ⟨by first | rfl | (simp; done) | (simp [*]; done), by repeat (first | exact Drawn0.refl _ | apply Drawn0.step)⟩)
 ·(rw [if_neg c4] at H); (have c4b0 : decide (a1 ≤ a0) = false := decide_eq_false c4); clear c4; (obtain rfl := Option.some.inj H); (go_enter Tryd.func73, Tryd.ntmps73); go_wp2; go_ret; (exact ⟨by first | rfl | (simp; done) | (simp [*]; done), by repeat (first | exact Drawn0.refl _ | apply Drawn0.step)⟩)
end Go.Proofs.YtoglcgnbkibpgaaDoor.A

namespace Go.Proofs.YtoglcgnbkibpgaaDoor.A
open Go.RowKit Go.Proofs.YtoglcgnbkibpgaaDoorW.PrintWords Go.Proofs.YtoglcgnbkibpgaaDoorW.PrintLast Go.Proofs.YtoglcgnbkibpgaaDoorW.PrintMore
attribute [local go_sem] max2_int min2_int max_two min_two max_three min_three max_four min_four   -- for this text's walks alone
set_option linter.unusedVariables false
set_option linter.unusedSimpArgs false
def spec_l01Rises.l0 : Nat → List Int → Int → Int → Option (Bool)
  | 0, _, _, _ => none
  | k + 1, x0, x1, x5 => if x5 < (x0.length : Int) then (if 0 ≤ x5 then ((spec_l01In.f (rd x0 x5) 0 (wrap64 (x1 - 1))).bind fun t106 => (if t106 = true then (if x5 > 0 then (if 0 ≤ (wrap64 (x5 - 1)) then (if (wrap64 (x5 - 1)) < (x0.length : Int) then (if (rd x0 x5) ≤ (rd x0 (wrap64 (x5 - 1))) then (some false) else (spec_l01Rises.l0 k x0 x1 (wrap64 (x5 + 1)))) else (none)) else (none)) else (spec_l01Rises.l0 k x0 x1 (wrap64 (x5 + 1)))) else (some false))) else (none)) else (some true)
def spec_l01Rises.f (k : Nat) (l0 : List Int) (a1 : Int) : Option (Bool) := spec_l01Rises.l0 k l0 a1 0
def spec_l01Rises.T4 : Bool × List (List Nat × List Nat) := (true, [([], []), ([], []), ([0, 1], [0, 1]), ([2], [2]), ([], []), ([4], [4]), ([3, 5], [3, 5]), ([6], [6]), ([7, 6], [7]), ([8], [8]), ([9, 8], [8, 9]), ([10, 8, 8], [8, 10]), ([11], [11]), ([11], [11]), ([12, 13, 11], [11, 12, 13]), ([14, 11], [11, 14]), ([11], [11]), ([11], [11]), ([17, 11], [11, 17]), ([16, 18, 11], [11, 16, 18]), ([19, 11], [11, 19]), ([15, 20, 11], [11, 15, 20]), ([11, 21, 8], [8, 11, 21]), ([8, 22], [8, 22])])
def spec_l01Rises.B4 : List Nat := [0, 0, 3, 7, 0, 16, 63, 127, 255, 511, 1023, 2047, 4095, 4095, 16383, 32767, 4095, 4095, 135167, 462847, 987135, 2097151, 4194303, 8388607]
theorem spec_l01Rises.tab4 : rtab .any (opsOf Tryd.f74 4) = spec_l01Rises.T4 := by kernel_rfl
theorem spec_l01Rises.bits4 : waitsOk spec_l01Rises.T4.2 spec_l01Rises.B4 = true := by kernel_rfl
set_option maxHeartbeats 8000000 in
set_option maxRecDepth 100000 in
theorem spec_l01Rises.calls (k : Nat) (A0 : Option Addr) (c0 : Nat) (l0 : List Int) (a1 : Int) (r : Bool) (w : World) (hr0 : Kd.C (Kd.int .i64) w A0 l0.length l0) (hc0 : l0.length ≤ c0) (h : spec_l01Rises.f k l0 a1 = some r) :
    Calls Tryd.prog 74 #[.slice A0 l0.length c0, .int .i64 a1] w fun e w' => e = .returned (.bool r) ∧ Drawn0 w w' := by
 (have HR0 := A0_ hr0); (have HC0 := A0_ hc0); clear hr0 hc0; (have H : (spec_l01Rises.l0 k l0 a1 0) = some r := h); clear h; (have H' := A0_ H); clear H; (go_enter Tryd.func74, Tryd.ntmps74); go_wp2; (repeat (go_quiet (fail); try go_wp2))
 go_loopg [5] k (fun kq v5 w' => ∃ (x5_1 : Int), v5 = .int .i64 x5_1 ∧ Aside0 (spec_l01Rises.l0 kq l0 a1 x5_1 = some r) ∧ Aside0 (kq ≤ k) ∧ Drawn0 w w')
 case atStart => exact ⟨(0), (by first | rfl | (simp; done) | (simp [*]; done)), H', ⟨Nat.le_refl _⟩, by repeat (first | exact Drawn0.refl _ | apply Drawn0.step)⟩
 case round =>
  clear H'; (try clear p2); (obtain ⟨x5_1, rfl, HA, HK1, ⟨m1, rfl⟩⟩ := hrel)
  cases gk with
  | zero => exact absurd HA.out (by simp [spec_l01Rises.l0])
  | succ k1 =>
   (have H := HA.out); clear HA; (simp only [spec_l01Rises.l0] at H); (by_cases c3 : x5_1 < (l0.length : Int))
   ·(rw [if_pos c3] at H); (have c3b0 : decide (x5_1 < (l0.length : Int)) = true := decide_eq_true c3); clear c3; (by_cases c4 : 0 ≤ x5_1)
    ·(rw [if_pos c4] at H); (have c4b0 : decide (0 ≤ x5_1) = true := decide_eq_true c4); clear c4; (replace H := Option.bind_eq_some_iff.mp H); (obtain ⟨t106, A50, H⟩ := H); (try dsimp only at H); (have A5 := A0_ A50); clear A50; (by_cases c6 : t106 = true)
     ·subst c6; (have H1 := H); (rw [if_pos rfl] at H1); clear H; (have H := H1); clear H1; (by_cases c7 : x5_1 > 0)
      ·(rw [if_pos c7] at H); (have c7b0 : decide (0 < x5_1) = true := decide_eq_true c7); clear c7; (obtain ⟨ji8, hji8⟩ : ∃ j_ : Int, (wrap64 (x5_1 - 1)) = j_ := ⟨_, rfl⟩); (replace H : (if 0 ≤ (ji8) then (if (ji8) < (l0.length : Int) then (if (rd l0 x5_1) ≤ (rd l0 (ji8)) then (some false) else (spec_l01Rises.l0 k1 l0 a1 (wrap64 (x5_1 + 1)))) else (none)) else (none)) = some r := by first | (rw [hji8] at H; exact H) | (simp only [hji8] at H ⊢; exact H)); ((try rw [hji8] at A5)); (have hji8w : (IntKind.i64.wrap (x5_1 - 1)) = ji8 := (i64_w _).trans hji8); (by_cases c9 : 0 ≤ (ji8))
       ·(rw [if_pos c9] at H); (have c9b0 : decide (0 ≤ (ji8)) = true := decide_eq_true c9); clear c9; (by_cases c10 : (ji8) < (l0.length : Int))
        ·(rw [if_pos c10] at H); (have c10b0 : decide ((ji8) < (l0.length : Int)) = true := decide_eq_true c10); clear c10; (by_cases c11 : (rd l0 x5_1) ≤ (rd l0 (ji8)))
         ·(rw [if_pos c11] at H); (have c11b0 : decide ((rd l0 x5_1) ≤ (rd l0 (ji8))) = true := decide_eq_true c11); clear c11; (obtain rfl := Option.some.inj H); (have p105 : 0 ≤ (x5_1 : Int) := of_decide_eq_true (by first | (with_reducible assumption) | assumption)); (have q105 : x5_1 < (l0.length : Int) := of_decide_eq_true (by first | (with_reducible assumption) | assumption)); (obtain ⟨ad105, e105, hx105_0⟩ := Kd.at_int HR0.out x5_1 p105 q105); (cases e105); (have p106 : 0 ≤ (ji8 : Int) := of_decide_eq_true (by first | (with_reducible assumption) | assumption)); (have q106 : ji8 < (l0.length : Int) := of_decide_eq_true (by first | (with_reducible assumption) | assumption)); (obtain ⟨ad106, e106, hx106_0⟩ := Kd.at_int HR0.out ji8 p106 q106); (obtain rfl : ad105 = ad106 := by injection e106); (replace p105 := eq_true p105); (replace q105 := eq_true q105); (replace p106 := eq_true p106); (replace q106 := eq_true q106); go_wp2
          refine start_ (n := 24) (S := fun w' => w'.cell? (ad105.add (x5_1).toNat) = some (.int .i64 (rd l0 x5_1)) ∧ w'.cell? (ad105.add (ji8).toNat) = some (.int .i64 (rd l0 ji8))) (ds := []) #[ff,ff,ff,ff,ff,ff,ff,ff,ff,ff,ff,ff,ff,ff,ff,ff,ff,ff,ff,ff,ff,ff,ff,ff] (by kernel_rfl) rfl rfl ⟨by simpa using hx105_0, by simpa using hx106_0⟩ (fun hHeld => ?_)
          refine with_tabW spec_l01Rises.tab4 spec_l01Rises.bits4 (fun HT_ HW_ => ?_)
          refine pure_ (i := 0) (N := some 12) (v := ?_) (a' := ?_) #[tt,ff,ff,ff,ff,ff,ff,ff,ff,ff,ff,ff,ff,ff,ff,ff,ff,ff,ff,ff,ff,ff,ff,ff] rfl rfl (any_of HT_.out (by kernel_rfl)) (fun _ _ _ h => h) (Or.inl ⟨by rfl, ?_⟩) ?_ ?_
          rotate_left
          ·intro w'; go_simp; with_reducible rfl
          rotate_left
          ·(simp only [Act.put, sia_, sz_, ss_, i64_w, i32_w]); rfl
          refine pure_ (i := 1) (N := some 13) (v := ?_) (a' := ?_) #[tt,tt,ff,ff,ff,ff,ff,ff,ff,ff,ff,ff,ff,ff,ff,ff,ff,ff,ff,ff,ff,ff,ff,ff] rfl rfl (any_of HT_.out (by kernel_rfl)) (fun _ _ _ h => h) (Or.inl ⟨by rfl, ?_⟩) ?_ ?_
          rotate_left
          ·intro w'; go_simp; with_reducible rfl
          rotate_left
          ·(simp only [Act.put, sia_, sz_, ss_, i64_w, i32_w]); rfl
          refine pure_ (i := 2) (N := some 14) (v := ?_) (a' := ?_) #[tt,tt,tt,ff,ff,ff,ff,ff,ff,ff,ff,ff,ff,ff,ff,ff,ff,ff,ff,ff,ff,ff,ff,ff] rfl rfl (any_of HT_.out (by kernel_rfl)) (fun _ _ _ h => h) (Or.inl ⟨by rfl, ?_⟩) ?_ ?_
          rotate_left
          ·intro w'; go_simp; with_reducible rfl
          rotate_left
          ·(simp only [Act.put, sia_, sz_, ss_, i64_w, i32_w]); rfl
          refine take_ (i := 3) (N := some 15) (v := ?_) (a' := ?_) #[tt,tt,tt,tt,ff,ff,ff,ff,ff,ff,ff,ff,ff,ff,ff,ff,ff,ff,ff,ff,ff,ff,ff,ff] rfl rfl (take_ofW HT_.out HW_.out (by kernel_rfl)) (fun _ _ _ h => h) (Or.inl ⟨by rfl, ?_⟩) hHeld ?_ ?_
          rotate_left
          ·(rintro w' ⟨s0, s1⟩); go_simp; with_reducible rfl
          rotate_left
          ·(simp only [Act.put, sia_, sz_, ss_, i64_w, i32_w]); rfl
          refine pure_ (i := 4) (N := some 16) (v := ?_) (a' := ?_) #[tt,tt,tt,tt,tt,ff,ff,ff,ff,ff,ff,ff,ff,ff,ff,ff,ff,ff,ff,ff,ff,ff,ff,ff] rfl rfl (any_of HT_.out (by kernel_rfl)) (fun _ _ _ h => h) (Or.inl ⟨by rfl, ?_⟩) ?_ ?_
          rotate_left
          ·intro w'; go_simp; with_reducible rfl
          rotate_left
          ·(simp only [Act.put, sia_, sz_, ss_, i64_w, i32_w]); rfl
          refine pure_ (i := 5) (N := some 17) (v := ?_) (a' := ?_) #[tt,tt,tt,tt,tt,tt,ff,ff,ff,ff,ff,ff,ff,ff,ff,ff,ff,ff,ff,ff,ff,ff,ff,ff] rfl rfl (any_of HT_.out (by kernel_rfl)) (fun _ _ _ h => h) (Or.inl ⟨by rfl, ?_⟩) ?_ ?_
          rotate_left
          ·intro w'; go_simp; with_reducible rfl
          rotate_left
          ·(simp only [Act.put, sia_, sz_, ss_, i64_w, i32_w]); rfl
          refine one_ (i := 6) (N := some 18) #[tt,tt,tt,tt,tt,tt,tt,ff,ff,ff,ff,ff,ff,ff,ff,ff,ff,ff,ff,ff,ff,ff,ff,ff] rfl rfl (one_of HT_.out (by kernel_rfl)) (by decide) (fun K hK => ?_)
          (refine goes_ Tryd.func73 (by kernel_rfl) rfl #[.int .i64 (rd l0 x5_1), .int .i64 0, .int .i64 (wrap64 (a1 - 1))] (by rfl) rfl rfl (by (try simp only [List.map_toArray, List.map_cons, List.map_nil]); first | done | rfl | (simp only [List.length_drop, List.length_take]; rfl)) ?_); (with_reducible refine (spec_l01In.calls (rd l0 x5_1) 0 (wrap64 (a1 - 1)) true _ A5.out).mono ?_); (rintro e w9 ⟨rfl, ⟨nd, rfl⟩⟩); (refine ⟨_, rfl, ?_⟩)
          refine hK.out _ _ ⟨by simpa using hHeld.1, by simpa using hHeld.2⟩ (fun hHeld => ?_)
          clear hK K; (refine norm_ (a' := ?_) ?_ ?_); rotate_left
          ·(show Act.put _ (some 18) _ = _); (simp only [Act.put, sia_, sz_, ss_, i64_w, i32_w]); rfl
          refine pure_ (i := 7) (N := some 19) (v := ?_) (a' := ?_) #[tt,tt,tt,tt,tt,tt,tt,tt,ff,ff,ff,ff,ff,ff,ff,ff,ff,ff,ff,ff,ff,ff,ff,ff] rfl rfl (any_of HT_.out (by kernel_rfl)) (fun _ _ _ h => h) (Or.inl ⟨by rfl, ?_⟩) ?_ ?_
          rotate_left
          ·intro w'; go_simp; with_reducible rfl
          rotate_left
          ·(simp only [Act.put, sia_, sz_, ss_, i64_w, i32_w]); rfl
          refine pure_ (i := 8) (N := some 20) (v := ?_) (a' := ?_) #[tt,tt,tt,tt,tt,tt,tt,tt,tt,ff,ff,ff,ff,ff,ff,ff,ff,ff,ff,ff,ff,ff,ff,ff] rfl rfl (any_of HT_.out (by kernel_rfl)) (fun _ _ _ h => h) (Or.inl ⟨by rfl, ?_⟩) ?_ ?_
          rotate_left
          ·intro w'; go_simp; with_reducible rfl
          rotate_left
          ·(simp only [Act.put, sia_, sz_, ss_, i64_w, i32_w]); rfl
          refine pure_ (i := 9) (N := some 21) (v := ?_) (a' := ?_) #[tt,tt,tt,tt,tt,tt,tt,tt,tt,tt,ff,ff,ff,ff,ff,ff,ff,ff,ff,ff,ff,ff,ff,ff] rfl rfl (any_of HT_.out (by kernel_rfl)) (fun _ _ _ h => h) (Or.inl ⟨by rfl, ?_⟩) ?_ ?_
          rotate_left
          ·intro w'; go_simp; with_reducible rfl
          rotate_left
          ·(simp only [Act.put, sia_, sz_, ss_, i64_w, i32_w]); rfl
          refine pure_ (i := 10) (N := some 22) (v := ?_) (a' := ?_) #[tt,tt,tt,tt,tt,tt,tt,tt,tt,tt,tt,ff,ff,ff,ff,ff,ff,ff,ff,ff,ff,ff,ff,ff] rfl rfl (any_of HT_.out (by kernel_rfl)) (fun _ _ _ h => h) (Or.inl ⟨by rfl, ?_⟩) ?_ ?_
          rotate_left
          ·intro w'; go_simp; with_reducible rfl
          rotate_left
          ·(simp only [Act.put, sia_, sz_, ss_, i64_w, i32_w]); rfl
          refine pure_ (i := 11) (N := some 23) (v := ?_) (a' := ?_) #[tt,tt,tt,tt,tt,tt,tt,tt,tt,tt,tt,tt,ff,ff,ff,ff,ff,ff,ff,ff,ff,ff,ff,ff] rfl rfl (any_of HT_.out (by kernel_rfl)) (fun _ _ _ h => h) (Or.inl ⟨by rfl, ?_⟩) ?_ ?_
          rotate_left
          ·intro w'; go_simp; with_reducible rfl
          rotate_left
          ·(simp only [Act.put, sia_, sz_, ss_, i64_w, i32_w]); rfl
          refine pure_ (i := 12) (N := some 24) (v := ?_) (a' := ?_) #[tt,tt,tt,tt,tt,tt,tt,tt,tt,tt,tt,tt,tt,ff,ff,ff,ff,ff,ff,ff,ff,ff,ff,ff] rfl rfl (any_of HT_.out (by kernel_rfl)) (fun _ _ _ h => h) (Or.inl ⟨by rfl, ?_⟩) ?_ ?_
          rotate_left
          ·intro w'; go_simp; with_reducible rfl
          rotate_left
          ·(simp only [Act.put, sia_, sz_, ss_, i64_w, i32_w]); rfl
          refine pure_ (i := 13) (N := some 25) (v := ?_) (a' := ?_) #[tt,tt,tt,tt,tt,tt,tt,tt,tt,tt,tt,tt,tt,tt,ff,ff,ff,ff,ff,ff,ff,ff,ff,ff] rfl rfl (any_of HT_.out (by kernel_rfl)) (fun _ _ _ h => h) (Or.inl ⟨by rfl, ?_⟩) ?_ ?_
          rotate_left
          ·intro w'; go_simp; with_reducible rfl
          rotate_left
          ·(simp only [Act.put, sia_, sz_, ss_, i64_w, i32_w]); rfl
          refine pure_ (i := 14) (N := some 26) (v := ?_) (a' := ?_) #[tt,tt,tt,tt,tt,tt,tt,tt,tt,tt,tt,tt,tt,tt,tt,ff,ff,ff,ff,ff,ff,ff,ff,ff] rfl rfl (any_of HT_.out (by kernel_rfl)) (fun _ _ _ h => h) (Or.inl ⟨by rfl, ?_⟩) ?_ ?_
          rotate_left
          ·intro w'; go_simp; with_reducible rfl
          rotate_left
          ·(simp only [Act.put, sia_, sz_, ss_, i64_w, i32_w]); rfl
          refine take_ (i := 15) (N := some 27) (v := ?_) (a' := ?_) #[tt,tt,tt,tt,tt,tt,tt,tt,tt,tt,tt,tt,tt,tt,tt,tt,ff,ff,ff,ff,ff,ff,ff,ff] rfl rfl (take_ofW HT_.out HW_.out (by kernel_rfl)) (fun _ _ _ h => h) (Or.inl ⟨by rfl, ?_⟩) hHeld ?_ ?_
          rotate_left
          ·(rintro w' ⟨s0, s1⟩); go_simp; with_reducible rfl
          rotate_left
          ·(simp only [Act.put, sia_, sz_, ss_, i64_w, i32_w]); rfl
          refine pure_ (i := 16) (N := some 28) (v := ?_) (a' := ?_) #[tt,tt,tt,tt,tt,tt,tt,tt,tt,tt,tt,tt,tt,tt,tt,tt,tt,ff,ff,ff,ff,ff,ff,ff] rfl rfl (any_of HT_.out (by kernel_rfl)) (fun _ _ _ h => h) (Or.inl ⟨by rfl, ?_⟩) ?_ ?_
          rotate_left
          ·intro w'; go_simp; with_reducible rfl
          rotate_left
          ·(simp only [Act.put, sia_, sz_, ss_, i64_w, i32_w]); rfl
          refine pure_ (i := 17) (N := some 29) (v := ?_) (a' := ?_) #[tt,tt,tt,tt,tt,tt,tt,tt,tt,tt,tt,tt,tt,tt,tt,tt,tt,tt,ff,ff,ff,ff,ff,ff] rfl rfl (any_of HT_.out (by kernel_rfl)) (fun _ _ _ h => h) (Or.inl ⟨by rfl, ?_⟩) ?_ ?_
          rotate_left
          ·intro w'; go_simp; with_reducible rfl
          rotate_left
          ·(simp only [Act.put, sia_, sz_, ss_, i64_w, i32_w]); rfl
          refine pure_ (i := 18) (N := some 30) (v := ?_) (a' := ?_) #[tt,tt,tt,tt,tt,tt,tt,tt,tt,tt,tt,tt,tt,tt,tt,tt,tt,tt,tt,ff,ff,ff,ff,ff] rfl rfl (any_of HT_.out (by kernel_rfl)) (fun _ _ _ h => h) (Or.inl ⟨by rfl, ?_⟩) ?_ ?_
          rotate_left
          ·intro w'; go_simp; with_reducible rfl
          rotate_left
          ·(simp only [Act.put, sia_, sz_, ss_, i64_w, i32_w]); rfl
          refine pure_ (i := 19) (N := some 31) (v := ?_) (a' := ?_) #[tt,tt,tt,tt,tt,tt,tt,tt,tt,tt,tt,tt,tt,tt,tt,tt,tt,tt,tt,tt,ff,ff,ff,ff] rfl rfl (any_of HT_.out (by kernel_rfl)) (fun _ _ _ h => h) (Or.inl ⟨by rfl, ?_⟩) ?_ ?_
          rotate_left
          ·intro w'; go_simp; with_reducible rfl
          rotate_left
          ·(simp only [Act.put, sia_, sz_, ss_, i64_w, i32_w]); rfl
          refine take_ (i := 20) (N := some 32) (v := ?_) (a' := ?_) #[tt,tt,tt,tt,tt,tt,tt,tt,tt,tt,tt,tt,tt,tt,tt,tt,tt,tt,tt,tt,tt,ff,ff,ff] rfl rfl (take_ofW HT_.out HW_.out (by kernel_rfl)) (fun _ _ _ h => h) (Or.inl ⟨by rfl, ?_⟩) hHeld ?_ ?_
          rotate_left
          ·(rintro w' ⟨s0, s1⟩); go_simp; with_reducible rfl
          rotate_left
          ·(simp only [Act.put, sia_, sz_, ss_, i64_w, i32_w]); rfl
          refine pure_ (i := 21) (N := some 33) (v := ?_) (a' := ?_) #[tt,tt,tt,tt,tt,tt,tt,tt,tt,tt,tt,tt,tt,tt,tt,tt,tt,tt,tt,tt,tt,tt,ff,ff] rfl rfl (any_of HT_.out (by kernel_rfl)) (fun _ _ _ h => h) (Or.inl ⟨by rfl, ?_⟩) ?_ ?_
          rotate_left
          ·intro w'; go_simp; with_reducible rfl
          rotate_left
          ·(simp only [Act.put, sia_, sz_, ss_, i64_w, i32_w]); rfl
          refine pure_ (i := 22) (N := some 34) (v := ?_) (a' := ?_) #[tt,tt,tt,tt,tt,tt,tt,tt,tt,tt,tt,tt,tt,tt,tt,tt,tt,tt,tt,tt,tt,tt,tt,ff] rfl rfl (any_of HT_.out (by kernel_rfl)) (fun _ _ _ h => h) (Or.inl ⟨by rfl, ?_⟩) ?_ ?_
          rotate_left
          ·intro w'; go_simp; with_reducible rfl
          rotate_left
          ·(simp only [Act.put, sia_, sz_, ss_, i64_w, i32_w]); rfl
          refine pure_ (i := 23) (N := some 35) (v := ?_) (a' := ?_) #[tt,tt,tt,tt,tt,tt,tt,tt,tt,tt,tt,tt,tt,tt,tt,tt,tt,tt,tt,tt,tt,tt,tt,tt] rfl rfl (any_of HT_.out (by kernel_rfl)) (fun _ _ _ h => h) (Or.inl ⟨by rfl, ?_⟩) ?_ ?_
          rotate_left
          ·intro w'; go_simp; with_reducible rfl
          rotate_left
          ·(simp only [Act.put, sia_, sz_, ss_, i64_w, i32_w]); rfl
          (refine done_ (done_of HT_.out (by kernel_rfl)) ?_); (try go_wp2); go_ret; (exact ⟨by first | rfl | (simp; done) | (simp only [← hji8] <;> (first | rfl | simp)) | (simp [*]; done), by repeat (first | exact Drawn0.refl _ | apply Drawn0.step)⟩)
         ·(rw [if_neg c11] at H); (have c11b0 : decide ((rd l0 x5_1) ≤ (rd l0 (ji8))) = false := decide_eq_false c11); clear c11; (have H' := A0_ H); clear H; (have p105 : 0 ≤ (x5_1 : Int) := of_decide_eq_true (by first | (with_reducible assumption) | assumption)); (have q105 : x5_1 < (l0.length : Int) := of_decide_eq_true (by first | (with_reducible assumption) | assumption)); (obtain ⟨ad105, e105, hx105_0⟩ := Kd.at_int HR0.out x5_1 p105 q105); (cases e105); (have p106 : 0 ≤ (ji8 : Int) := of_decide_eq_true (by first | (with_reducible assumption) | assumption)); (have q106 : ji8 < (l0.length : Int) := of_decide_eq_true (by first | (with_reducible assumption) | assumption)); (obtain ⟨ad106, e106, hx106_0⟩ := Kd.at_int HR0.out ji8 p106 q106); (obtain rfl : ad105 = ad106 := by injection e106); (replace p105 := eq_true p105); (replace q105 := eq_true q105); (replace p106 := eq_true p106); (replace q106 := eq_true q106); go_wp2
          refine start_ (n := 24) (S := fun w' => w'.cell? (ad105.add (x5_1).toNat) = some (.int .i64 (rd l0 x5_1)) ∧ w'.cell? (ad105.add (ji8).toNat) = some (.int .i64 (rd l0 ji8))) (ds := []) #[ff,ff,ff,ff,ff,ff,ff,ff,ff,ff,ff,ff,ff,ff,ff,ff,ff,ff,ff,ff,ff,ff,ff,ff] (by kernel_rfl) rfl rfl ⟨by simpa using hx105_0, by simpa using hx106_0⟩ (fun hHeld => ?_)
          refine with_tabW spec_l01Rises.tab4 spec_l01Rises.bits4 (fun HT_ HW_ => ?_)
          refine pure_ (i := 0) (N := some 12) (v := ?_) (a' := ?_) #[tt,ff,ff,ff,ff,ff,ff,ff,ff,ff,ff,ff,ff,ff,ff,ff,ff,ff,ff,ff,ff,ff,ff,ff] rfl rfl (any_of HT_.out (by kernel_rfl)) (fun _ _ _ h => h) (Or.inl ⟨by rfl, ?_⟩) ?_ ?_
          rotate_left
          ·intro w'; go_simp; with_reducible rfl
          rotate_left
          ·(simp only [Act.put, sia_, sz_, ss_, i64_w, i32_w]); rfl
          refine pure_ (i := 1) (N := some 13) (v := ?_) (a' := ?_) #[tt,tt,ff,ff,ff,ff,ff,ff,ff,ff,ff,ff,ff,ff,ff,ff,ff,ff,ff,ff,ff,ff,ff,ff] rfl rfl (any_of HT_.out (by kernel_rfl)) (fun _ _ _ h => h) (Or.inl ⟨by rfl, ?_⟩) ?_ ?_
          rotate_left
          ·intro w'; go_simp; with_reducible rfl
          rotate_left
          ·(simp only [Act.put, sia_, sz_, ss_, i64_w, i32_w]); rfl
          refine pure_ (i := 2) (N := some 14) (v := ?_) (a' := ?_) #[tt,tt,tt,ff,ff,ff,ff,ff,ff,ff,ff,ff,ff,ff,ff,ff,ff,ff,ff,ff,ff,ff,ff,ff] rfl rfl (any_of HT_.out (by kernel_rfl)) (fun _ _ _ h => h) (Or.inl ⟨by rfl, ?_⟩) ?_ ?_
          rotate_left
          ·intro w'; go_simp; with_reducible rfl
          rotate_left
          ·(simp only [Act.put, sia_, sz_, ss_, i64_w, i32_w]); rfl
          refine take_ (i := 3) (N := some 15) (v := ?_) (a' := ?_) #[tt,tt,tt,tt,ff,ff,ff,ff,ff,ff,ff,ff,ff,ff,ff,ff,ff,ff,ff,ff,ff,ff,ff,ff] rfl rfl (take_ofW HT_.out HW_.out (by kernel_rfl)) (fun _ _ _ h => h) (Or.inl ⟨by rfl, ?_⟩) hHeld ?_ ?_
          rotate_left
          ·(rintro w' ⟨s0, s1⟩); go_simp; with_reducible rfl
          rotate_left
          ·(simp only [Act.put, sia_, sz_, ss_, i64_w, i32_w]); rfl
          refine pure_ (i := 4) (N := some 16) (v := ?_) (a' := ?_) #[tt,tt,tt,tt,tt,ff,ff,ff,ff,ff,ff,ff,ff,ff,ff,ff,ff,ff,ff,ff,ff,ff,ff,ff] rfl rfl (any_of HT_.out (by kernel_rfl)) (fun _ _ _ h => h) (Or.inl ⟨by rfl, ?_⟩) ?_ ?_
          rotate_left
          ·intro w'; go_simp; with_reducible rfl
          rotate_left
          ·(simp only [Act.put, sia_, sz_, ss_, i64_w, i32_w]); rfl
          refine pure_ (i := 5) (N := some 17) (v := ?_) (a' := ?_) #[tt,tt,tt,tt,tt,tt,ff,ff,ff,ff,ff,ff,ff,ff,ff,ff,ff,ff,ff,ff,ff,ff,ff,ff] rfl rfl (any_of HT_.out (by kernel_rfl)) (fun _ _ _ h => h) (Or.inl ⟨by rfl, ?_⟩) ?_ ?_
          rotate_left
          ·intro w'; go_simp; with_reducible rfl
          rotate_left
          ·(simp only [Act.put, sia_, sz_, ss_, i64_w, i32_w]); rfl
          refine one_ (i := 6) (N := some 18) #[tt,tt,tt,tt,tt,tt,tt,ff,ff,ff,ff,ff,ff,ff,ff,ff,ff,ff,ff,ff,ff,ff,ff,ff] rfl rfl (one_of HT_.out (by kernel_rfl)) (by decide) (fun K hK => ?_)
          (refine goes_ Tryd.func73 (by kernel_rfl) rfl #[.int .i64 (rd l0 x5_1), .int .i64 0, .int .i64 (wrap64 (a1 - 1))] (by rfl) rfl rfl (by (try simp only [List.map_toArray, List.map_cons, List.map_nil]); first | done | rfl | (simp only [List.length_drop, List.length_take]; rfl)) ?_); (with_reducible refine (spec_l01In.calls (rd l0 x5_1) 0 (wrap64 (a1 - 1)) true _ A5.out).mono ?_); (rintro e w9 ⟨rfl, ⟨nd, rfl⟩⟩); (refine ⟨_, rfl, ?_⟩)
          refine hK.out _ _ ⟨by simpa using hHeld.1, by simpa using hHeld.2⟩ (fun hHeld => ?_)
          clear hK K; (refine norm_ (a' := ?_) ?_ ?_); rotate_left
          ·(show Act.put _ (some 18) _ = _); (simp only [Act.put, sia_, sz_, ss_, i64_w, i32_w]); rfl
          refine pure_ (i := 7) (N := some 19) (v := ?_) (a' := ?_) #[tt,tt,tt,tt,tt,tt,tt,tt,ff,ff,ff,ff,ff,ff,ff,ff,ff,ff,ff,ff,ff,ff,ff,ff] rfl rfl (any_of HT_.out (by kernel_rfl)) (fun _ _ _ h => h) (Or.inl ⟨by rfl, ?_⟩) ?_ ?_
          rotate_left
          ·intro w'; go_simp; with_reducible rfl
          rotate_left
          ·(simp only [Act.put, sia_, sz_, ss_, i64_w, i32_w]); rfl
          refine pure_ (i := 8) (N := some 20) (v := ?_) (a' := ?_) #[tt,tt,tt,tt,tt,tt,tt,tt,tt,ff,ff,ff,ff,ff,ff,ff,ff,ff,ff,ff,ff,ff,ff,ff] rfl rfl (any_of HT_.out (by kernel_rfl)) (fun _ _ _ h => h) (Or.inl ⟨by rfl, ?_⟩) ?_ ?_
          rotate_left
          ·intro w'; go_simp; with_reducible rfl
          rotate_left
          ·(simp only [Act.put, sia_, sz_, ss_, i64_w, i32_w]); rfl
          refine pure_ (i := 9) (N := some 21) (v := ?_) (a' := ?_) #[tt,tt,tt,tt,tt,tt,tt,tt,tt,tt,ff,ff,ff,ff,ff,ff,ff,ff,ff,ff,ff,ff,ff,ff] rfl rfl (any_of HT_.out (by kernel_rfl)) (fun _ _ _ h => h) (Or.inl ⟨by rfl, ?_⟩) ?_ ?_
          rotate_left
          ·intro w'; go_simp; with_reducible rfl
          rotate_left
          ·(simp only [Act.put, sia_, sz_, ss_, i64_w, i32_w]); rfl
          refine pure_ (i := 10) (N := some 22) (v := ?_) (a' := ?_) #[tt,tt,tt,tt,tt,tt,tt,tt,tt,tt,tt,ff,ff,ff,ff,ff,ff,ff,ff,ff,ff,ff,ff,ff] rfl rfl (any_of HT_.out (by kernel_rfl)) (fun _ _ _ h => h) (Or.inl ⟨by rfl, ?_⟩) ?_ ?_
          rotate_left
          ·intro w'; go_simp; with_reducible rfl
          rotate_left
          ·(simp only [Act.put, sia_, sz_, ss_, i64_w, i32_w]); rfl
          refine pure_ (i := 11) (N := some 23) (v := ?_) (a' := ?_) #[tt,tt,tt,tt,tt,tt,tt,tt,tt,tt,tt,tt,ff,ff,ff,ff,ff,ff,ff,ff,ff,ff,ff,ff] rfl rfl (any_of HT_.out (by kernel_rfl)) (fun _ _ _ h => h) (Or.inl ⟨by rfl, ?_⟩) ?_ ?_
          rotate_left
          ·intro w'; go_simp; with_reducible rfl
          rotate_left
          ·(simp only [Act.put, sia_, sz_, ss_, i64_w, i32_w]); rfl
          refine pure_ (i := 12) (N := some 24) (v := ?_) (a' := ?_) #[tt,tt,tt,tt,tt,tt,tt,tt,tt,tt,tt,tt,tt,ff,ff,ff,ff,ff,ff,ff,ff,ff,ff,ff] rfl rfl (any_of HT_.out (by kernel_rfl)) (fun _ _ _ h => h) (Or.inl ⟨by rfl, ?_⟩) ?_ ?_
          rotate_left
          ·intro w'; go_simp; with_reducible rfl
          rotate_left
          ·(simp only [Act.put, sia_, sz_, ss_, i64_w, i32_w]); rfl
          refine pure_ (i := 13) (N := some 25) (v := ?_) (a' := ?_) #[tt,tt,tt,tt,tt,tt,tt,tt,tt,tt,tt,tt,tt,tt,ff,ff,ff,ff,ff,ff,ff,ff,ff,ff] rfl rfl (any_of HT_.out (by kernel_rfl)) (fun _ _ _ h => h) (Or.inl ⟨by rfl, ?_⟩) ?_ ?_
          rotate_left
          ·intro w'; go_simp; with_reducible rfl
          rotate_left
          ·(simp only [Act.put, sia_, sz_, ss_, i64_w, i32_w]); rfl
          refine pure_ (i := 14) (N := some 26) (v := ?_) (a' := ?_) #[tt,tt,tt,tt,tt,tt,tt,tt,tt,tt,tt,tt,tt,tt,tt,ff,ff,ff,ff,ff,ff,ff,ff,ff] rfl rfl (any_of HT_.out (by kernel_rfl)) (fun _ _ _ h => h) (Or.inl ⟨by rfl, ?_⟩) ?_ ?_
          rotate_left
          ·intro w'; go_simp; with_reducible rfl
          rotate_left
          ·(simp only [Act.put, sia_, sz_, ss_, i64_w, i32_w]); rfl
          refine take_ (i := 15) (N := some 27) (v := ?_) (a' := ?_) #[tt,tt,tt,tt,tt,tt,tt,tt,tt,tt,tt,tt,tt,tt,tt,tt,ff,ff,ff,ff,ff,ff,ff,ff] rfl rfl (take_ofW HT_.out HW_.out (by kernel_rfl)) (fun _ _ _ h => h) (Or.inl ⟨by rfl, ?_⟩) hHeld ?_ ?_
          rotate_left
          ·(rintro w' ⟨s0, s1⟩); go_simp; with_reducible rfl
          rotate_left
          ·(simp only [Act.put, sia_, sz_, ss_, i64_w, i32_w]); rfl
          refine pure_ (i := 16) (N := some 28) (v := ?_) (a' := ?_) #[tt,tt,tt,tt,tt,tt,tt,tt,tt,tt,tt,tt,tt,tt,tt,tt,tt,ff,ff,ff,ff,ff,ff,ff] rfl rfl (any_of HT_.out (by kernel_rfl)) (fun _ _ _ h => h) (Or.inl ⟨by rfl, ?_⟩) ?_ ?_
          rotate_left
          ·intro w'; go_simp; with_reducible rfl
          rotate_left
          ·(simp only [Act.put, sia_, sz_, ss_, i64_w, i32_w]); rfl
          refine pure_ (i := 17) (N := some 29) (v := ?_) (a' := ?_) #[tt,tt,tt,tt,tt,tt,tt,tt,tt,tt,tt,tt,tt,tt,tt,tt,tt,tt,ff,ff,ff,ff,ff,ff] rfl rfl (any_of HT_.out (by kernel_rfl)) (fun _ _ _ h => h) (Or.inl ⟨by rfl, ?_⟩) ?_ ?_
          rotate_left
          ·intro w'; go_simp; with_reducible rfl
          rotate_left
          ·(simp only [Act.put, sia_, sz_, ss_, i64_w, i32_w]); rfl
          refine pure_ (i := 18) (N := some 30) (v := ?_) (a' := ?_) #[tt,tt,tt,tt,tt,tt,tt,tt,tt,tt,tt,tt,tt,tt,tt,tt,tt,tt,tt,ff,ff,ff,ff,ff] rfl rfl (any_of HT_.out (by kernel_rfl)) (fun _ _ _ h => h) (Or.inl ⟨by rfl, ?_⟩) ?_ ?_
          rotate_left
          ·intro w'; go_simp; with_reducible rfl
          rotate_left
          ·(simp only [Act.put, sia_, sz_, ss_, i64_w, i32_w]); rfl
          refine pure_ (i := 19) (N := some 31) (v := ?_) (a' := ?_) #[tt,tt,tt,tt,tt,tt,tt,tt,tt,tt,tt,tt,tt,tt,tt,tt,tt,tt,tt,tt,ff,ff,ff,ff] rfl rfl (any_of HT_.out (by kernel_rfl)) (fun _ _ _ h => h) (Or.inl ⟨by rfl, ?_⟩) ?_ ?_
          rotate_left
          ·intro w'; go_simp; with_reducible rfl
          rotate_left
          ·(simp only [Act.put, sia_, sz_, ss_, i64_w, i32_w]); rfl
          refine take_ (i := 20) (N := some 32) (v := ?_) (a' := ?_) #[tt,tt,tt,tt,tt,tt,tt,tt,tt,tt,tt,tt,tt,tt,tt,tt,tt,tt,tt,tt,tt,ff,ff,ff] rfl rfl (take_ofW HT_.out HW_.out (by kernel_rfl)) (fun _ _ _ h => h) (Or.inl ⟨by rfl, ?_⟩) hHeld ?_ ?_
          rotate_left
          ·(rintro w' ⟨s0, s1⟩); go_simp; with_reducible rfl
          rotate_left
          ·(simp only [Act.put, sia_, sz_, ss_, i64_w, i32_w]); rfl
          refine pure_ (i := 21) (N := some 33) (v := ?_) (a' := ?_) #[tt,tt,tt,tt,tt,tt,tt,tt,tt,tt,tt,tt,tt,tt,tt,tt,tt,tt,tt,tt,tt,tt,ff,ff] rfl rfl (any_of HT_.out (by kernel_rfl)) (fun _ _ _ h => h) (Or.inl ⟨by rfl, ?_⟩) ?_ ?_
          rotate_left
          ·intro w'; go_simp; with_reducible rfl
          rotate_left
          ·(simp only [Act.put, sia_, sz_, ss_, i64_w, i32_w]); rfl
          refine pure_ (i := 22) (N := some 34) (v := ?_) (a' := ?_) #[tt,tt,tt,tt,tt,tt,tt,tt,tt,tt,tt,tt,tt,tt,tt,tt,tt,tt,tt,tt,tt,tt,tt,ff] rfl rfl (any_of HT_.out (by kernel_rfl)) (fun _ _ _ h => h) (Or.inl ⟨by rfl, ?_⟩) ?_ ?_
          rotate_left
          ·intro w'; go_simp; with_reducible rfl
          rotate_left
          ·(simp only [Act.put, sia_, sz_, ss_, i64_w, i32_w]); rfl
          refine pure_ (i := 23) (N := some 35) (v := ?_) (a' := ?_) #[tt,tt,tt,tt,tt,tt,tt,tt,tt,tt,tt,tt,tt,tt,tt,tt,tt,tt,tt,tt,tt,tt,tt,tt] rfl rfl (any_of HT_.out (by kernel_rfl)) (fun _ _ _ h => h) (Or.inl ⟨by rfl, ?_⟩) ?_ ?_
          rotate_left
          ·intro w'; go_simp; with_reducible rfl
          rotate_left
          ·(simp only [Act.put, sia_, sz_, ss_, i64_w, i32_w]); rfl
          (refine done_ (done_of HT_.out (by kernel_rfl)) ?_); (try go_wp2); (go_roundg k1)
          case measure => have := HK1.out; omega
          case rel => exact ⟨(wrap64 (x5_1 + 1)), (by first | rfl | (simp; done) | (simp [*]; done)), H', ⟨by have := HK1.out; omega⟩, by repeat (first | exact Drawn0.refl _ | apply Drawn0.step)⟩
        ·(rw [if_neg c10] at H); (exact absurd H (by simp))
       ·(rw [if_neg c9] at H); (exact absurd H (by simp))
      ·(rw [if_neg c7] at H); (have c7b0 : decide (0 < x5_1) = false := decide_eq_false c7); clear c7; (have H' := A0_ H); clear H; (have p105 : 0 ≤ (x5_1 : Int) := of_decide_eq_true (by first | (with_reducible assumption) | assumption)); (have q105 : x5_1 < (l0.length : Int) := of_decide_eq_true (by first | (with_reducible assumption) | assumption)); (obtain ⟨ad105, e105, hx105_0⟩ := Kd.at_int HR0.out x5_1 p105 q105); (cases e105); (replace p105 := eq_true p105); (replace q105 := eq_true q105); (go_wp2_with (first | (go_at_call 73; (with_reducible refine (spec_l01In.calls (rd l0 x5_1) 0 (wrap64 (a1 - 1)) true _ A5.out).mono ?_); rintro e w' ⟨rfl, ⟨nd, rfl⟩⟩; (try first | exact ⟨rfl, _, World.drewN_drewN _ _ _⟩ | exact ⟨rfl, _, Eq.trans (World.drewN_drewN _ _ _) (congrArg (World.drewN _) (Nat.add_assoc _ _ _))⟩)))); (repeat (go_quiet (first | (go_at_call 73; (with_reducible refine (spec_l01In.calls (rd l0 x5_1) 0 (wrap64 (a1 - 1)) true _ A5.out).mono ?_); rintro e w' ⟨rfl, ⟨nd, rfl⟩⟩; (try first | exact ⟨rfl, _, World.drewN_drewN _ _ _⟩ | exact ⟨rfl, _, Eq.trans (World.drewN_drewN _ _ _) (congrArg (World.drewN _) (Nat.add_assoc _ _ _))⟩))); try go_wp2_with (first | (go_at_call 73; (with_reducible refine (spec_l01In.calls (rd l0 x5_1) 0 (wrap64 (a1 - 1)) true _ A5.out).mono ?_); rintro e w' ⟨rfl, ⟨nd, rfl⟩⟩; (try first | exact ⟨rfl, _, World.drewN_drewN _ _ _⟩ | exact ⟨rfl, _, Eq.trans (World.drewN_drewN _ _ _) (congrArg (World.drewN _) (Nat.add_assoc _ _ _))⟩))))); (go_roundg k1)
       case measure => have := HK1.out; omega
       case rel => exact ⟨(wrap64 (x5_1 + 1)), (by first | rfl | (simp; done) | (simp [*]; done)), H', ⟨by have := HK1.out; omega⟩, by repeat (first | exact Drawn0.refl _ | apply Drawn0.step)⟩
     ·(replace c6 := Bool.eq_false_iff.mpr c6); subst c6; (have H1 : (some false) = some r := by rw [if_neg (show ¬ (false = true) by decide)] at H; exact H); clear H; (have H := H1); clear H1; (obtain rfl := Option.some.inj H); (have p105 : 0 ≤ (x5_1 : Int) := of_decide_eq_true (by first | (with_reducible assumption) | assumption)); (have q105 : x5_1 < (l0.length : Int) := of_decide_eq_true (by first | (with_reducible assumption) | assumption)); (obtain ⟨ad105, e105, hx105_0⟩ := Kd.at_int HR0.out x5_1 p105 q105); (cases e105); (replace p105 := eq_true p105); (replace q105 := eq_true q105); (go_wp2_with (first | (go_at_call 73; (with_reducible refine (spec_l01In.calls (rd l0 x5_1) 0 (wrap64 (a1 - 1)) false _ A5.out).mono ?_); rintro e w' ⟨rfl, ⟨nd, rfl⟩⟩; (try first | exact ⟨rfl, _, World.drewN_drewN _ _ _⟩ | exact ⟨rfl, _, Eq.trans (World.drewN_drewN _ _ _) (congrArg (World.drewN _) (Nat.add_assoc _ _ _))⟩)))); (repeat (go_quiet (first | (go_at_call 73; (with_reducible refine (spec_l01In.calls (rd l0 x5_1) 0 (wrap64 (a1 - 1)) false _ A5.out).mono ?_); rintro e w' ⟨rfl, ⟨nd, rfl⟩⟩; (try first | exact ⟨rfl, _, World.drewN_drewN _ _ _⟩ | exact ⟨rfl, _, Eq.trans (World.drewN_drewN _ _ _) (congrArg (World.drewN _) (Nat.add_assoc _ _ _))⟩))); try go_wp2_with (first | (go_at_call 73; (with_reducible refine (spec_l01In.calls (rd l0 x5_1) 0 (wrap64 (a1 - 1)) false _ A5.out).mono ?_); rintro e w' ⟨rfl, ⟨nd, rfl⟩⟩; (try first | exact ⟨rfl, _, World.drewN_drewN _ _ _⟩ | exact ⟨rfl, _, Eq.trans (World.drewN_drewN _ _ _) (congrArg (World.drewN _) (Nat.add_assoc _ _ _))⟩))))); go_ret; (exact ⟨by first | rfl | (simp; done) | (simp [*]; done), by repeat (first | exact Drawn0.refl _ | apply Drawn0.step)⟩)
    ·(rw [if_neg c4] at H); (exact absurd H (by simp))
   ·(rw [if_neg c3] at H); (have c3b0 : decide (x5_1 < (l0.length : Int)) = false := decide_eq_false c3); clear c3; (obtain rfl := Option.some.inj H); go_wp2; (repeat (go_quiet (fail); try go_wp2)); go_ret; (exact ⟨by first | rfl | (simp; done) | (simp [*]; done), by repeat (first | exact Drawn0.refl _ | apply Drawn0.step)⟩)
end Go.Proofs.YtoglcgnbkibpgaaDoor.A

namespace Go.Proofs.YtoglcgnbkibpgaaDoor.A
open Go.RowKit Go.Proofs.YtoglcgnbkibpgaaDoorW.PrintWords Go.Proofs.YtoglcgnbkibpgaaDoorW.PrintLast Go.Proofs.YtoglcgnbkibpgaaDoorW.PrintMore
attribute [local go_sem] max2_int min2_int max_two min_two max_three min_three max_four min_four   -- for this text's walks alone
set_option linter.unusedVariables false
set_option linter.unusedSimpArgs false
mutual
def spec_IsCover.j0 : Nat → Bool → Int → Int → List (List Int) → Option (Bool)
  | 0, _, _, _, _ => none
  | k + 1, x21, x110000, x110001, x110002 => if x21 = true then (some false) else (spec_IsCover.l0 k 0 x110000 x110001 x110002)
def spec_IsCover.l0 : Nat → Int → Int → Int → List (List Int) → Option (Bool)
  | 0, _, _, _, _ => none
  | k + 1, x3, x110000, x110001, x110002 => if x3 < (x110002.length : Int) then (if 0 ≤ x3 then (if ((rd_L1 x110002 x3).length : Int) = 0 then (some false) else ((spec_l01Rises.f k (rd_L1 x110002 x3) x110000).bind fun t114 => (if t114 = true then (spec_IsCover.l0 k (wrap64 (x3 + 1)) x110000 x110001 x110002) else (some false)))) else (none)) else (some true)
end
def spec_IsCover.f (k : Nat) (a0_0 : Int) (a0_1 : Int) (l0_2 : List (List Int)) : Option (Bool) := (spec_l01In.f a0_0 1 60).bind fun t110 => (if t110 = true then ((spec_l01In.f a0_1 1 a0_0).bind fun t111 => (if t111 = true then (spec_IsCover.j0 k (decide ((l0_2.length : Int) > 400)) a0_0 a0_1 l0_2) else (spec_IsCover.j0 k true a0_0 a0_1 l0_2))) else (spec_IsCover.j0 k true a0_0 a0_1 l0_2))
set_option maxHeartbeats 8000000 in
set_option maxRecDepth 100000 in
theorem spec_IsCover.calls (k : Nat) (a0_0 : Int) (a0_1 : Int) (A0_2 : Option Addr) (c0_2 : Nat) (l0_2 : List (List Int)) (r : Bool) (w : World) (hr0_2 : Kd.C (Kd.slice 2 (Kd.int .i64)) w A0_2 l0_2.length l0_2) (hc0_2 : l0_2.length ≤ c0_2) (h : spec_IsCover.f k a0_0 a0_1 l0_2 = some r) :
    Calls Tryd.prog 47 #[.agg #[.int .i64 a0_0, .int .i64 a0_1, .slice A0_2 l0_2.length c0_2]] w fun e w' => e = .returned (.bool r) ∧ Below w.heap.size w w' := by
 (have hu28 := Tryd.underlying28); (have HR0_2 := A0_ hr0_2); (have HC0_2 := A0_ hc0_2); clear hr0_2 hc0_2; (have HB := A0_ (Below.refl w.heap.size w))
 have H : ((spec_l01In.f a0_0 1 60).bind fun t110 => (if t110 = true then ((spec_l01In.f a0_1 1 a0_0).bind fun t111 => (if t111 = true then (spec_IsCover.j0 k (decide ((l0_2.length : Int) > 400)) a0_0 a0_1 l0_2) else (spec_IsCover.j0 k true a0_0 a0_1 l0_2))) else (spec_IsCover.j0 k true a0_0 a0_1 l0_2))) = some r := h
 clear h; (have HC2 := A0_ H); clear H; (go_enter Tryd.func47, Tryd.ntmps47); (go_upto_region 1 with (first | ((with_reducible refine gate_dst (N := 1) rfl ?_); (try (refine gate_guard (by rfl) ?_; dsimp only)); refine box_event ?hg (N := 1) ?hd (cs := #[.int .i64 a0_0, .int .i64 a0_1, .slice A0_2 l0_2.length c0_2]) (t := 28) ?hr ?_; (case hd => rfl); (case hg => rfl); (case hr => first | (go_simp; done) | (go_simp; rfl)); intro gb109 hg w3 hbox hb; have n0_ := A0_ (below_step (by repeat (first | (with_reducible first | exact HB.out | apply ba_ | apply bn_ | apply bd_) | exact HB.out)) hb); have n1_ := A0_ (hbox); have n2_ := A0_ ((by rw [hg]; exact (below_size (by repeat (first | (with_reducible first | exact HB.out | apply ba_ | apply bn_ | apply bd_) | exact HB.out))) : w.heap.size ≤ gb109)); have n3_ := A0_ ((by rw [hg]; exact (below_size (by repeat (first | (with_reducible first | exact HB.out | apply ba_ | apply bn_ | apply bd_) | exact HB.out))) : w.heap.size ≤ gb109)); clear HB; have HB := n0_; have BK109 := n1_; have GW109 := n2_; have GE109 := n3_; clear n0_ n1_ n2_ n3_; clear hb hbox hg))); (repeat (go_quiet (first | ((with_reducible refine gate_dst (N := 1) rfl ?_); (try (refine gate_guard (by rfl) ?_; dsimp only)); refine box_event ?hg (N := 1) ?hd (cs := #[.int .i64 a0_0, .int .i64 a0_1, .slice A0_2 l0_2.length c0_2]) (t := 28) ?hr ?_; (case hd => rfl); (case hg => rfl); (case hr => first | (go_simp; done) | (go_simp; rfl)); intro gb109 hg w3 hbox hb; have n0_ := A0_ (below_step (by repeat (first | (with_reducible first | exact HB.out | apply ba_ | apply bn_ | apply bd_) | exact HB.out)) hb); have n1_ := A0_ (hbox); have n2_ := A0_ ((by rw [hg]; exact (below_size (by repeat (first | (with_reducible first | exact HB.out | apply ba_ | apply bn_ | apply bd_) | exact HB.out))) : w.heap.size ≤ gb109)); have n3_ := A0_ ((by rw [hg]; exact (below_size (by repeat (first | (with_reducible first | exact HB.out | apply ba_ | apply bn_ | apply bd_) | exact HB.out))) : w.heap.size ≤ gb109)); clear HB; have HB := n0_; have BK109 := n1_; have GW109 := n2_; have GE109 := n3_; clear n0_ n1_ n2_ n3_; clear hb hbox hg)); go_upto_region 1 with (first | ((with_reducible refine gate_dst (N := 1) rfl ?_); (try (refine gate_guard (by rfl) ?_; dsimp only)); refine box_event ?hg (N := 1) ?hd (cs := #[.int .i64 a0_0, .int .i64 a0_1, .slice A0_2 l0_2.length c0_2]) (t := 28) ?hr ?_; (case hd => rfl); (case hg => rfl); (case hr => first | (go_simp; done) | (go_simp; rfl)); intro gb109 hg w3 hbox hb; have n0_ := A0_ (below_step (by repeat (first | (with_reducible first | exact HB.out | apply ba_ | apply bn_ | apply bd_) | exact HB.out)) hb); have n1_ := A0_ (hbox); have n2_ := A0_ ((by rw [hg]; exact (below_size (by repeat (first | (with_reducible first | exact HB.out | apply ba_ | apply bn_ | apply bd_) | exact HB.out))) : w.heap.size ≤ gb109)); have n3_ := A0_ ((by rw [hg]; exact (below_size (by repeat (first | (with_reducible first | exact HB.out | apply ba_ | apply bn_ | apply bd_) | exact HB.out))) : w.heap.size ≤ gb109)); clear HB; have HB := n0_; have BK109 := n1_; have GW109 := n2_; have GE109 := n3_; clear n0_ n1_ n2_ n3_; clear hb hbox hg)))); ((try simp only [Act.put, List.setIfInBounds_toArray, List.set_cons_zero, List.set_cons_succ]))
 go_cut [21] (fun v21 wc => ∃ (kq : Nat) (x21_1 : Bool), v21 = .bool x21_1 ∧ Aside0 (spec_IsCover.j0 kq x21_1 a0_0 a0_1 l0_2 = some r) ∧ Aside0 (kq ≤ k) ∧ Aside0 (wc.heap[gb109]? = some (.cells #[.int .i64 a0_0, .int .i64 a0_1, (.slice A0_2 l0_2.length c0_2)] 28 (0, 0))) ∧ Aside0 (Below w.heap.size w wc))
 case first =>
  (have H := HC2.out); clear HC2; (replace H := Option.bind_eq_some_iff.mp H); (obtain ⟨t110, A40, H⟩ := H); (try dsimp only at H); (have A4 := A0_ A40); clear A40; (by_cases c5 : t110 = true)
  ·subst c5; (have H1 := H); (rw [if_pos rfl] at H1); clear H; (have H := H1); clear H1; (replace H := Option.bind_eq_some_iff.mp H); (obtain ⟨t111, A60, H⟩ := H); (try dsimp only at H); (have A6 := A0_ A60); clear A60; (by_cases c7 : t111 = true)
   ·subst c7; (have H1 := H); (rw [if_pos rfl] at H1); clear H; (have H := H1); clear H1; (have H' := A0_ H); clear H; (have hcz8_0 : w3.cell? ⟨gb109, 0, none⟩ = some (.int .i64 a0_0) := (blk_cell BK109.out 0).trans rfl); (have hcz8_1 : w3.cell? ⟨gb109, 1, none⟩ = some (.int .i64 a0_1) := (blk_cell BK109.out 1).trans rfl); (have hcz8_2 : w3.cell? ⟨gb109, 2, none⟩ = some (.slice A0_2 l0_2.length c0_2) := (blk_cell BK109.out 2).trans rfl); (have hfz8_0 := blk_frozen BK109.out 0); (have hfz8_1 := blk_frozen BK109.out 1); (have hfz8_2 := blk_frozen BK109.out 2); (go_wp2_with (first | (go_at_call 73; (with_reducible refine (spec_l01In.calls a0_0 1 60 true _ A4.out).mono ?_); rintro e w' ⟨rfl, ⟨nd, rfl⟩⟩; (try first | exact ⟨rfl, _, World.drewN_drewN _ _ _⟩ | exact ⟨rfl, _, Eq.trans (World.drewN_drewN _ _ _) (congrArg (World.drewN _) (Nat.add_assoc _ _ _))⟩)) | (go_at_call 73; (with_reducible refine (spec_l01In.calls a0_1 1 a0_0 true _ A6.out).mono ?_); rintro e w' ⟨rfl, ⟨nd, rfl⟩⟩; (try first | exact ⟨rfl, _, World.drewN_drewN _ _ _⟩ | exact ⟨rfl, _, Eq.trans (World.drewN_drewN _ _ _) (congrArg (World.drewN _) (Nat.add_assoc _ _ _))⟩)))); (repeat (go_quiet (first | (go_at_call 73; (with_reducible refine (spec_l01In.calls a0_0 1 60 true _ A4.out).mono ?_); rintro e w' ⟨rfl, ⟨nd, rfl⟩⟩; (try first | exact ⟨rfl, _, World.drewN_drewN _ _ _⟩ | exact ⟨rfl, _, Eq.trans (World.drewN_drewN _ _ _) (congrArg (World.drewN _) (Nat.add_assoc _ _ _))⟩)) | (go_at_call 73; (with_reducible refine (spec_l01In.calls a0_1 1 a0_0 true _ A6.out).mono ?_); rintro e w' ⟨rfl, ⟨nd, rfl⟩⟩; (try first | exact ⟨rfl, _, World.drewN_drewN _ _ _⟩ | exact ⟨rfl, _, Eq.trans (World.drewN_drewN _ _ _) (congrArg (World.drewN _) (Nat.add_assoc _ _ _))⟩))); try go_wp2_with (first | (go_at_call 73; (with_reducible refine (spec_l01In.calls a0_0 1 60 true _ A4.out).mono ?_); rintro e w' ⟨rfl, ⟨nd, rfl⟩⟩; (try first | exact ⟨rfl, _, World.drewN_drewN _ _ _⟩ | exact ⟨rfl, _, Eq.trans (World.drewN_drewN _ _ _) (congrArg (World.drewN _) (Nat.add_assoc _ _ _))⟩)) | (go_at_call 73; (with_reducible refine (spec_l01In.calls a0_1 1 a0_0 true _ A6.out).mono ?_); rintro e w' ⟨rfl, ⟨nd, rfl⟩⟩; (try first | exact ⟨rfl, _, World.drewN_drewN _ _ _⟩ | exact ⟨rfl, _, Eq.trans (World.drewN_drewN _ _ _) (congrArg (World.drewN _) (Nat.add_assoc _ _ _))⟩))))); (go_meet)
    case rel => exact ⟨_, (decide ((l0_2.length : Int) > 400)), (by first | rfl | (simp; done) | (simp [*]; done)), H', ⟨by first | omega | exact Nat.le_refl _⟩, ⟨by (with_reducible repeat (first | apply gn_ | apply gd_ | apply ga_)); exact BK109.out⟩, ⟨by repeat (first | (with_reducible first | exact HB.out | apply ba_ | apply bn_ | apply bd_ | refine below_set ?_ GE109.out) | exact HB.out)⟩⟩
   ·(replace c7 := Bool.eq_false_iff.mpr c7); subst c7; (have H1 : (spec_IsCover.j0 k true a0_0 a0_1 l0_2) = some r := by rw [if_neg (show ¬ (false = true) by decide)] at H; exact H); clear H; (have H := H1); clear H1; (have H' := A0_ H); clear H; (have hcz9_0 : w3.cell? ⟨gb109, 0, none⟩ = some (.int .i64 a0_0) := (blk_cell BK109.out 0).trans rfl); (have hcz9_1 : w3.cell? ⟨gb109, 1, none⟩ = some (.int .i64 a0_1) := (blk_cell BK109.out 1).trans rfl); (have hcz9_2 : w3.cell? ⟨gb109, 2, none⟩ = some (.slice A0_2 l0_2.length c0_2) := (blk_cell BK109.out 2).trans rfl); (have hfz9_0 := blk_frozen BK109.out 0); (have hfz9_1 := blk_frozen BK109.out 1); (have hfz9_2 := blk_frozen BK109.out 2); (go_wp2_with (first | (go_at_call 73; (with_reducible refine (spec_l01In.calls a0_0 1 60 true _ A4.out).mono ?_); rintro e w' ⟨rfl, ⟨nd, rfl⟩⟩; (try first | exact ⟨rfl, _, World.drewN_drewN _ _ _⟩ | exact ⟨rfl, _, Eq.trans (World.drewN_drewN _ _ _) (congrArg (World.drewN _) (Nat.add_assoc _ _ _))⟩)) | (go_at_call 73; (with_reducible refine (spec_l01In.calls a0_1 1 a0_0 false _ A6.out).mono ?_); rintro e w' ⟨rfl, ⟨nd, rfl⟩⟩; (try first | exact ⟨rfl, _, World.drewN_drewN _ _ _⟩ | exact ⟨rfl, _, Eq.trans (World.drewN_drewN _ _ _) (congrArg (World.drewN _) (Nat.add_assoc _ _ _))⟩)))); (repeat (go_quiet (first | (go_at_call 73; (with_reducible refine (spec_l01In.calls a0_0 1 60 true _ A4.out).mono ?_); rintro e w' ⟨rfl, ⟨nd, rfl⟩⟩; (try first | exact ⟨rfl, _, World.drewN_drewN _ _ _⟩ | exact ⟨rfl, _, Eq.trans (World.drewN_drewN _ _ _) (congrArg (World.drewN _) (Nat.add_assoc _ _ _))⟩)) | (go_at_call 73; (with_reducible refine (spec_l01In.calls a0_1 1 a0_0 false _ A6.out).mono ?_); rintro e w' ⟨rfl, ⟨nd, rfl⟩⟩; (try first | exact ⟨rfl, _, World.drewN_drewN _ _ _⟩ | exact ⟨rfl, _, Eq.trans (World.drewN_drewN _ _ _) (congrArg (World.drewN _) (Nat.add_assoc _ _ _))⟩))); try go_wp2_with (first | (go_at_call 73; (with_reducible refine (spec_l01In.calls a0_0 1 60 true _ A4.out).mono ?_); rintro e w' ⟨rfl, ⟨nd, rfl⟩⟩; (try first | exact ⟨rfl, _, World.drewN_drewN _ _ _⟩ | exact ⟨rfl, _, Eq.trans (World.drewN_drewN _ _ _) (congrArg (World.drewN _) (Nat.add_assoc _ _ _))⟩)) | (go_at_call 73; (with_reducible refine (spec_l01In.calls a0_1 1 a0_0 false _ A6.out).mono ?_); rintro e w' ⟨rfl, ⟨nd, rfl⟩⟩; (try first | exact ⟨rfl, _, World.drewN_drewN _ _ _⟩ | exact ⟨rfl, _, Eq.trans (World.drewN_drewN _ _ _) (congrArg (World.drewN _) (Nat.add_assoc _ _ _))⟩))))); (go_meet)
    case rel => exact ⟨_, (true), (by first | rfl | (simp; done) | (simp [*]; done)), H', ⟨by first | omega | exact Nat.le_refl _⟩, ⟨by (with_reducible repeat (first | apply gn_ | apply gd_ | apply ga_)); exact BK109.out⟩, ⟨by repeat (first | (with_reducible first | exact HB.out | apply ba_ | apply bn_ | apply bd_ | refine below_set ?_ GE109.out) | exact HB.out)⟩⟩
  ·(replace c5 := Bool.eq_false_iff.mpr c5); subst c5; (have H1 : (spec_IsCover.j0 k true a0_0 a0_1 l0_2) = some r := by rw [if_neg (show ¬ (false = true) by decide)] at H; exact H); clear H; (have H := H1); clear H1; (have H' := A0_ H); clear H; (have hcz10_0 : w3.cell? ⟨gb109, 0, none⟩ = some (.int .i64 a0_0) := (blk_cell BK109.out 0).trans rfl); (have hcz10_1 : w3.cell? ⟨gb109, 1, none⟩ = some (.int .i64 a0_1) := (blk_cell BK109.out 1).trans rfl); (have hcz10_2 : w3.cell? ⟨gb109, 2, none⟩ = some (.slice A0_2 l0_2.length c0_2) := (blk_cell BK109.out 2).trans rfl); (have hfz10_0 := blk_frozen BK109.out 0); (have hfz10_1 := blk_frozen BK109.out 1); (have hfz10_2 := blk_frozen BK109.out 2); (go_wp2_with (first | (go_at_call 73; (with_reducible refine (spec_l01In.calls a0_0 1 60 false _ A4.out).mono ?_); rintro e w' ⟨rfl, ⟨nd, rfl⟩⟩; (try first | exact ⟨rfl, _, World.drewN_drewN _ _ _⟩ | exact ⟨rfl, _, Eq.trans (World.drewN_drewN _ _ _) (congrArg (World.drewN _) (Nat.add_assoc _ _ _))⟩)))); (repeat (go_quiet (first | (go_at_call 73; (with_reducible refine (spec_l01In.calls a0_0 1 60 false _ A4.out).mono ?_); rintro e w' ⟨rfl, ⟨nd, rfl⟩⟩; (try first | exact ⟨rfl, _, World.drewN_drewN _ _ _⟩ | exact ⟨rfl, _, Eq.trans (World.drewN_drewN _ _ _) (congrArg (World.drewN _) (Nat.add_assoc _ _ _))⟩))); try go_wp2_with (first | (go_at_call 73; (with_reducible refine (spec_l01In.calls a0_0 1 60 false _ A4.out).mono ?_); rintro e w' ⟨rfl, ⟨nd, rfl⟩⟩; (try first | exact ⟨rfl, _, World.drewN_drewN _ _ _⟩ | exact ⟨rfl, _, Eq.trans (World.drewN_drewN _ _ _) (congrArg (World.drewN _) (Nat.add_assoc _ _ _))⟩))))); (go_meet)
   case rel => exact ⟨_, (true), (by first | rfl | (simp; done) | (simp [*]; done)), H', ⟨by first | omega | exact Nat.le_refl _⟩, ⟨by (with_reducible repeat (first | apply gn_ | apply gd_ | apply ga_)); exact BK109.out⟩, ⟨by repeat (first | (with_reducible first | exact HB.out | apply ba_ | apply bn_ | apply bd_ | refine below_set ?_ GE109.out) | exact HB.out)⟩⟩
 case rest =>
  clear HC2; (try clear p2); (try clear c4); (try clear c5); (try clear c7); (try clear hcz10_0 hcz10_1 hcz10_2); (try clear hcz8_0 hcz8_1 hcz8_2); (try clear hcz9_0 hcz9_1 hcz9_2); (try clear hfz10_0 hfz10_1 hfz10_2); (try clear hfz8_0 hfz8_1 hfz8_2); (try clear hfz9_0 hfz9_1 hfz9_2); (obtain ⟨kq, x21_1, rfl, HA, HJ1, BK109, HB⟩ := hcut)
  cases kq with
  | zero => exact absurd HA.out (by simp [spec_IsCover.j0])
  | succ kj1 =>
   (have H := HA.out); clear HA; (simp only [spec_IsCover.j0] at H); (by_cases c11 : x21_1 = true)
   ·subst c11; (have H1 := H); (rw [if_pos rfl] at H1); clear H; (have H := H1); clear H1; (obtain rfl := Option.some.inj H); go_wp2; (repeat (go_quiet (fail); try go_wp2)); go_ret; (exact ⟨by first | rfl | (simp [errW_none, errW_some] <;> rfl) | (simp [*, errW_none, errW_some] <;> rfl), by repeat (first | (with_reducible first | exact HB.out | apply ba_ | apply bn_ | apply bd_ | refine below_set ?_ GE109.out) | exact HB.out)⟩)
   ·(replace c11 := Bool.eq_false_iff.mpr c11); subst c11; (have H1 : (spec_IsCover.l0 kj1 0 a0_0 a0_1 l0_2) = some r := by rw [if_neg (show ¬ (false = true) by decide)] at H; exact H); clear H; (have H := H1); clear H1; (have H' := A0_ H); clear H; go_wp2; (repeat (go_quiet (fail); try go_wp2))
    go_loopg [3] kj1 (fun kq v3 w' => ∃ (x3_2 : Int), v3 = .int .i64 x3_2 ∧ Aside0 (spec_IsCover.l0 kq x3_2 a0_0 a0_1 l0_2 = some r) ∧ Aside0 (kq ≤ kj1) ∧ Aside0 (w'.heap[gb109]? = some (.cells #[.int .i64 a0_0, .int .i64 a0_1, (.slice A0_2 l0_2.length c0_2)] 28 (0, 0))) ∧ Aside0 (Below w.heap.size w w'))
    case atStart => exact ⟨(0), (by first | rfl | (simp; done) | (simp [*]; done)), H', ⟨Nat.le_refl _⟩, ⟨by (with_reducible repeat (first | apply gn_ | apply gd_ | apply ga_)); exact BK109.out⟩, ⟨by repeat (first | (with_reducible first | exact HB.out | apply ba_ | apply bn_ | apply bd_ | refine below_set ?_ GE109.out) | exact HB.out)⟩⟩
    case round =>
     clear H'; (try clear c1); (try clear p2); (try clear c4); (try clear c5); (try clear c7); (try clear c11); (try clear hcz10_0 hcz10_1 hcz10_2); (try clear hcz8_0 hcz8_1 hcz8_2); (try clear hcz9_0 hcz9_1 hcz9_2); (try clear hfz10_0 hfz10_1 hfz10_2); (try clear hfz8_0 hfz8_1 hfz8_2); (try clear hfz9_0 hfz9_1 hfz9_2); (try clear p2); (obtain ⟨x3_2, rfl, HA, HK2, BK109, HB⟩ := hrel)
     cases gk with
     | zero => exact absurd HA.out (by simp [spec_IsCover.l0])
     | succ k2 =>
      (have H := HA.out); clear HA; (simp only [spec_IsCover.l0] at H); (by_cases c12 : x3_2 < (l0_2.length : Int))
      ·(rw [if_pos c12] at H); (have c12b0 : decide (x3_2 < (l0_2.length : Int)) = true := decide_eq_true c12); clear c12; (by_cases c13 : 0 ≤ x3_2)
       ·(rw [if_pos c13] at H); (have c13b0 : decide (0 ≤ x3_2) = true := decide_eq_true c13); clear c13; (by_cases c14 : ((rd_L1 l0_2 x3_2).length : Int) = 0)
        ·(rw [if_pos c14] at H); (have c14b0 : (((rd_L1 l0_2 x3_2).length : Int) == 0) = true := beq_iff_eq.mpr c14); (have c14b1 : (((rd_L1 l0_2 x3_2).length : Int) != 0) = false := bne_eq_false_iff_eq.mpr c14); clear c14; (obtain rfl := Option.some.inj H); (have hcz15_0 : wr.cell? ⟨gb109, 0, none⟩ = some (.int .i64 a0_0) := (blk_cell BK109.out 0).trans rfl); (have hcz15_1 : wr.cell? ⟨gb109, 1, none⟩ = some (.int .i64 a0_1) := (blk_cell BK109.out 1).trans rfl); (have hcz15_2 : wr.cell? ⟨gb109, 2, none⟩ = some (.slice A0_2 l0_2.length c0_2) := (blk_cell BK109.out 2).trans rfl); (have hfz15_0 := blk_frozen BK109.out 0); (have hfz15_1 := blk_frozen BK109.out 1); (have hfz15_2 := blk_frozen BK109.out 2); (have p112 : 0 ≤ (x3_2 : Int) := of_decide_eq_true (by first | (with_reducible assumption) | assumption)); (have q112 : x3_2 < (l0_2.length : Int) := of_decide_eq_true (by first | (with_reducible assumption) | assumption)); (obtain ⟨ad112, A112_0, c112_0, e112, hx112_0, hl112_0, hi112_0⟩ := at_L1 HR0_2.out x3_2 p112 q112); (cases e112); (replace hx112_0 := (HB.out.cell (World.block_lt_of_cell? w _ hx112_0)).trans hx112_0); (have HR112_0 := A0_ hi112_0); (have HC112_0 := A0_ hl112_0); clear hi112_0 hl112_0; (replace p112 := eq_true p112); (replace q112 := eq_true q112); go_wp2; (repeat (go_quiet (fail); try go_wp2)); go_ret; (exact ⟨by first | rfl | (simp [errW_none, errW_some] <;> rfl) | (simp [*, errW_none, errW_some] <;> rfl), by repeat (first | (with_reducible first | exact HB.out | apply ba_ | apply bn_ | apply bd_ | refine below_set ?_ GE109.out) | exact HB.out)⟩)
        ·(rw [if_neg c14] at H); (have c14b0 : (((rd_L1 l0_2 x3_2).length : Int) == 0) = false := beq_eq_false_iff_ne.mpr c14); (have c14b1 : (((rd_L1 l0_2 x3_2).length : Int) != 0) = true := bne_iff_ne.mpr c14)
         have c14b2 : ¬ ((rd_L1 l0_2 x3_2) = []) := fun h_ => c14 (by rw [h_]; rfl)
         (replace H := Option.bind_eq_some_iff.mp H); (obtain ⟨t114, A160, H⟩ := H); (try dsimp only at H); (have A16 := A0_ A160); clear A160; (by_cases c17 : t114 = true)
         ·subst c17; (have H1 := H); (rw [if_pos rfl] at H1); clear H; (have H := H1); clear H1; (have H' := A0_ H); clear H; (have hcz18_0 : wr.cell? ⟨gb109, 0, none⟩ = some (.int .i64 a0_0) := (blk_cell BK109.out 0).trans rfl); (have hcz18_1 : wr.cell? ⟨gb109, 1, none⟩ = some (.int .i64 a0_1) := (blk_cell BK109.out 1).trans rfl); (have hcz18_2 : wr.cell? ⟨gb109, 2, none⟩ = some (.slice A0_2 l0_2.length c0_2) := (blk_cell BK109.out 2).trans rfl); (have hfz18_0 := blk_frozen BK109.out 0); (have hfz18_1 := blk_frozen BK109.out 1); (have hfz18_2 := blk_frozen BK109.out 2); (have p112 : 0 ≤ (x3_2 : Int) := of_decide_eq_true (by first | (with_reducible assumption) | assumption)); (have q112 : x3_2 < (l0_2.length : Int) := of_decide_eq_true (by first | (with_reducible assumption) | assumption)); (obtain ⟨ad112, A112_0, c112_0, e112, hx112_0, hl112_0, hi112_0⟩ := at_L1 HR0_2.out x3_2 p112 q112); (cases e112); (replace hx112_0 := (HB.out.cell (World.block_lt_of_cell? w _ hx112_0)).trans hx112_0); (have HR112_0 := A0_ hi112_0); (have HC112_0 := A0_ hl112_0); clear hi112_0 hl112_0; (replace p112 := eq_true p112); (replace q112 := eq_true q112); (have p113 : 0 ≤ (x3_2 : Int) := of_decide_eq_true (by first | (with_reducible assumption) | assumption)); (have q113 : x3_2 < (l0_2.length : Int) := of_decide_eq_true (by first | (with_reducible assumption) | assumption)); (obtain ⟨ad113, A113_0, c113_0, e113, hx113_0, hl113_0, hi113_0⟩ := at_L1 HR0_2.out x3_2 p113 q113); (obtain rfl : ad112 = ad113 := (by injection e113)); (replace hx113_0 := (HB.out.cell (World.block_lt_of_cell? w _ hx113_0)).trans hx113_0); (have HR113_0 := A0_ hi113_0); (have HC113_0 := A0_ hl113_0); clear hi113_0 hl113_0; (replace p113 := eq_true p113); (replace q113 := eq_true q113); (have ea_ := Option.some.inj (hx112_0.symm.trans hx113_0)); (injection ea_ with ea_ en_ ec_); subst ea_; subst ec_; clear en_; (go_wp2_with (first | (go_at_call 74; (with_reducible refine (spec_l01Rises.calls k2 _ _ (rd_L1 l0_2 x3_2) a0_0 true _ ?side1 ?side2 A16.out).mono ?_); (case side1 => repeat (first | exact (Kd.C_below HR113_0.out HB.out) | (with_reducible refine Kd.C_alloc ?_ _) | (with_reducible refine Kd.C_drewN ?_ _) | (with_reducible refine Kd.C_drew ?_))); (case side2 => exact HC113_0.out); rintro e w' ⟨rfl, ⟨nd, rfl⟩⟩; (try first | exact ⟨rfl, _, World.drewN_drewN _ _ _⟩ | exact ⟨rfl, _, Eq.trans (World.drewN_drewN _ _ _) (congrArg (World.drewN _) (Nat.add_assoc _ _ _))⟩)))); (repeat (go_quiet (first | (go_at_call 74; (with_reducible refine (spec_l01Rises.calls k2 _ _ (rd_L1 l0_2 x3_2) a0_0 true _ ?side1 ?side2 A16.out).mono ?_); (case side1 => repeat (first | exact (Kd.C_below HR113_0.out HB.out) | (with_reducible refine Kd.C_alloc ?_ _) | (with_reducible refine Kd.C_drewN ?_ _) | (with_reducible refine Kd.C_drew ?_))); (case side2 => exact HC113_0.out); rintro e w' ⟨rfl, ⟨nd, rfl⟩⟩; (try first | exact ⟨rfl, _, World.drewN_drewN _ _ _⟩ | exact ⟨rfl, _, Eq.trans (World.drewN_drewN _ _ _) (congrArg (World.drewN _) (Nat.add_assoc _ _ _))⟩))); try go_wp2_with (first | (go_at_call 74; (with_reducible refine (spec_l01Rises.calls k2 _ _ (rd_L1 l0_2 x3_2) a0_0 true _ ?side1 ?side2 A16.out).mono ?_); (case side1 => repeat (first | exact (Kd.C_below HR113_0.out HB.out) | (with_reducible refine Kd.C_alloc ?_ _) | (with_reducible refine Kd.C_drewN ?_ _) | (with_reducible refine Kd.C_drew ?_))); (case side2 => exact HC113_0.out); rintro e w' ⟨rfl, ⟨nd, rfl⟩⟩; (try first | exact ⟨rfl, _, World.drewN_drewN _ _ _⟩ | exact ⟨rfl, _, Eq.trans (World.drewN_drewN _ _ _) (congrArg (World.drewN _) (Nat.add_assoc _ _ _))⟩))))); (go_roundg k2)
          case measure => have := HJ1.out; have := HK2.out; omega
          case rel => exact ⟨(wrap64 (x3_2 + 1)), (by first | rfl | (simp; done) | (simp [*]; done)), H', ⟨by have := HJ1.out; have := HK2.out; omega⟩, ⟨by (with_reducible repeat (first | apply gn_ | apply gd_ | apply ga_)); exact BK109.out⟩, ⟨by repeat (first | (with_reducible first | exact HB.out | apply ba_ | apply bn_ | apply bd_ | refine below_set ?_ GE109.out) | exact HB.out)⟩⟩
         ·(replace c17 := Bool.eq_false_iff.mpr c17); subst c17; (have H1 : (some false) = some r := by rw [if_neg (show ¬ (false = true) by decide)] at H; exact H); clear H; (have H := H1); clear H1; (obtain rfl := Option.some.inj H); (have hcz19_0 : wr.cell? ⟨gb109, 0, none⟩ = some (.int .i64 a0_0) := (blk_cell BK109.out 0).trans rfl); (have hcz19_1 : wr.cell? ⟨gb109, 1, none⟩ = some (.int .i64 a0_1) := (blk_cell BK109.out 1).trans rfl); (have hcz19_2 : wr.cell? ⟨gb109, 2, none⟩ = some (.slice A0_2 l0_2.length c0_2) := (blk_cell BK109.out 2).trans rfl); (have hfz19_0 := blk_frozen BK109.out 0); (have hfz19_1 := blk_frozen BK109.out 1); (have hfz19_2 := blk_frozen BK109.out 2); (have p112 : 0 ≤ (x3_2 : Int) := of_decide_eq_true (by first | (with_reducible assumption) | assumption)); (have q112 : x3_2 < (l0_2.length : Int) := of_decide_eq_true (by first | (with_reducible assumption) | assumption)); (obtain ⟨ad112, A112_0, c112_0, e112, hx112_0, hl112_0, hi112_0⟩ := at_L1 HR0_2.out x3_2 p112 q112); (cases e112); (replace hx112_0 := (HB.out.cell (World.block_lt_of_cell? w _ hx112_0)).trans hx112_0); (have HR112_0 := A0_ hi112_0); (have HC112_0 := A0_ hl112_0); clear hi112_0 hl112_0; (replace p112 := eq_true p112); (replace q112 := eq_true q112); (have p113 : 0 ≤ (x3_2 : Int) := of_decide_eq_true (by first | (with_reducible assumption) | assumption)); (have q113 : x3_2 < (l0_2.length : Int) := of_decide_eq_true (by first | (with_reducible assumption) | assumption)); (obtain ⟨ad113, A113_0, c113_0, e113, hx113_0, hl113_0, hi113_0⟩ := at_L1 HR0_2.out x3_2 p113 q113); (obtain rfl : ad112 = ad113 := (by injection e113)); (replace hx113_0 := (HB.out.cell (World.block_lt_of_cell? w _ hx113_0)).trans hx113_0); (have HR113_0 := A0_ hi113_0); (have HC113_0 := A0_ hl113_0); clear hi113_0 hl113_0; (replace p113 := eq_true p113); (replace q113 := eq_true q113); (have ea_ := Option.some.inj (hx112_0.symm.trans hx113_0)); (injection ea_ with ea_ en_ ec_); subst ea_; subst ec_; clear en_; (go_wp2_with (first | (go_at_call 74; (with_reducible refine (spec_l01Rises.calls k2 _ _ (rd_L1 l0_2 x3_2) a0_0 false _ ?side1 ?side2 A16.out).mono ?_); (case side1 => repeat (first | exact (Kd.C_below HR113_0.out HB.out) | (with_reducible refine Kd.C_alloc ?_ _) | (with_reducible refine Kd.C_drewN ?_ _) | (with_reducible refine Kd.C_drew ?_))); (case side2 => exact HC113_0.out); rintro e w' ⟨rfl, ⟨nd, rfl⟩⟩; (try first | exact ⟨rfl, _, World.drewN_drewN _ _ _⟩ | exact ⟨rfl, _, Eq.trans (World.drewN_drewN _ _ _) (congrArg (World.drewN _) (Nat.add_assoc _ _ _))⟩)))); (repeat (go_quiet (first | (go_at_call 74; (with_reducible refine (spec_l01Rises.calls k2 _ _ (rd_L1 l0_2 x3_2) a0_0 false _ ?side1 ?side2 A16.out).mono ?_); (case side1 => repeat (first | exact (Kd.C_below HR113_0.out HB.out) | (with_reducible refine Kd.C_alloc ?_ _) | (with_reducible refine Kd.C_drewN ?_ _) | (with_reducible refine Kd.C_drew ?_))); (case side2 => exact HC113_0.out); rintro e w' ⟨rfl, ⟨nd, rfl⟩⟩; (try first | exact ⟨rfl, _, World.drewN_drewN _ _ _⟩ | exact ⟨rfl, _, Eq.trans (World.drewN_drewN _ _ _) (congrArg (World.drewN _) (Nat.add_assoc _ _ _))⟩))); try go_wp2_with (first | (go_at_call 74; (with_reducible refine (spec_l01Rises.calls k2 _ _ (rd_L1 l0_2 x3_2) a0_0 false _ ?side1 ?side2 A16.out).mono ?_); (case side1 => repeat (first | exact (Kd.C_below HR113_0.out HB.out) | (with_reducible refine Kd.C_alloc ?_ _) | (with_reducible refine Kd.C_drewN ?_ _) | (with_reducible refine Kd.C_drew ?_))); (case side2 => exact HC113_0.out); rintro e w' ⟨rfl, ⟨nd, rfl⟩⟩; (try first | exact ⟨rfl, _, World.drewN_drewN _ _ _⟩ | exact ⟨rfl, _, Eq.trans (World.drewN_drewN _ _ _) (congrArg (World.drewN _) (Nat.add_assoc _ _ _))⟩))))); go_ret; (exact ⟨by first | rfl | (simp [errW_none, errW_some] <;> rfl) | (simp [*, errW_none, errW_some] <;> rfl), by repeat (first | (with_reducible first | exact HB.out | apply ba_ | apply bn_ | apply bd_ | refine below_set ?_ GE109.out) | exact HB.out)⟩)
       ·(rw [if_neg c13] at H); (exact absurd H (by simp))
      ·(rw [if_neg c12] at H); (have c12b0 : decide (x3_2 < (l0_2.length : Int)) = false := decide_eq_false c12); clear c12; (obtain rfl := Option.some.inj H); (have hcz20_0 : wr.cell? ⟨gb109, 0, none⟩ = some (.int .i64 a0_0) := (blk_cell BK109.out 0).trans rfl); (have hcz20_1 : wr.cell? ⟨gb109, 1, none⟩ = some (.int .i64 a0_1) := (blk_cell BK109.out 1).trans rfl); (have hcz20_2 : wr.cell? ⟨gb109, 2, none⟩ = some (.slice A0_2 l0_2.length c0_2) := (blk_cell BK109.out 2).trans rfl); (have hfz20_0 := blk_frozen BK109.out 0); (have hfz20_1 := blk_frozen BK109.out 1); (have hfz20_2 := blk_frozen BK109.out 2); go_wp2; (repeat (go_quiet (fail); try go_wp2)); go_ret; (exact ⟨by first | rfl | (simp [errW_none, errW_some] <;> rfl) | (simp [*, errW_none, errW_some] <;> rfl), by repeat (first | (with_reducible first | exact HB.out | apply ba_ | apply bn_ | apply bd_ | refine below_set ?_ GE109.out) | exact HB.out)⟩)
end Go.Proofs.YtoglcgnbkibpgaaDoor.A

/- The reference's small functions over covers, in plain words. -/
namespace Go.Proofs.YtoglcgnbkibpgaaDoor.A
set_option linter.unusedSimpArgs false
set_option linter.unusedVariables false
open Go.RowKit Go.Proofs.YtoglcgnbkibpgaaDoorW.PrintWords Go.Proofs.YtoglcgnbkibpgaaDoorW.PrintLast Go.Proofs.YtoglcgnbkibpgaaDoorW.PrintMore Go.Proofs.YtoglcgnbkibpgaaDoorW.Cov
def inB (x lo hi : Int) : Bool := decide (lo ≤ x) && decide (x ≤ hi)
theorem inB_iff (x a b : Int) : inB x a b = true ↔ a ≤ x ∧ x ≤ b := by unfold inB; simp
theorem l01In_eq (a b c : Int) : spec_l01In.f a b c = some (inB a b c) := by
  unfold spec_l01In.f inB
  by_cases h : a ≥ b
  · rw [if_pos h]; simp; omega
  · rw [if_neg h]; simp; omega
theorem rd_at (xs : List Int) (x : Int) (h0 : 0 ≤ x) (h1 : x < xs.length) : rd xs x = xs[x.toNat]'(by omega) := by
  obtain ⟨m, rfl⟩ := Int.eq_ofNat_of_zero_le h0
  exact rd_nat xs m (by omega)
theorem rdL_at (rows : List (List Int)) (x : Int) : rd_L1 rows x = rwAt rows x := rfl
theorem l01Has_ev (l : List Int) (x : Int) (h : l.length ≤ 1048576) : Ev (fun k => spec_l01Has.f k l x) (l.contains x) := by
  unfold spec_l01Has.f
  refine ev_list0 l (fun (_ : Unit) i k => spec_l01Has.l0 k l x i) (fun _ r => r.contains x) (fun s => ?_) (fun s j hj ih => ?_) ()
  · exact Ev.step (f := fun _ => some false) (fun k => by simp only [spec_l01Has.l0]; rw [if_neg (by omega)]) (Ev.now _)
  · by_cases c : l[j] = x
    · refine Ev.step (f := fun _ => some true) (fun k => ?_) ?_
      · simp only [spec_l01Has.l0]
        rw [if_pos (by omega), if_pos (by omega), if_pos (by rw [rd_nat l j hj]; exact c)]
      · rw [List.contains_cons, c]
        simpa using Ev.now true
    · refine Ev.step (f := fun k => spec_l01Has.l0 k l x ((j + 1 : Nat) : Int)) (fun k => ?_) ?_
      · simp only [spec_l01Has.l0]
        rw [if_pos (by omega), if_pos (by omega), if_neg (by rw [rd_nat l j hj]; exact c), wrap_succ j (by omega)]
      · rw [List.contains_cons, show (x == l[j]) = false from by simpa using fun e => c e.symm]
        simpa using ih ()
/-- Does a list rise from 0 on, below c? -/
def risesF (c : Int) : Option Int → List Int → Bool
  | _, [] => true
  | p, x :: r => inB x 0 (c - 1) && ((match p with | none => true | some y => decide (y < x)) && risesF c (some x) r)
theorem l01Rises_ev (r : List Int) (c : Int) (h : r.length ≤ 1048576) (h0 : -1 ≤ c) (h1 : c ≤ 1048576) : Ev (fun k => spec_l01Rises.f k r c) (risesF c none r) := by
  unfold spec_l01Rises.f
  have := ev_listI r (fun (s : Option Int) j => s = if j = 0 then none else r[j - 1]?) (fun _ i k => spec_l01Rises.l0 k r c i) (fun s l => risesF c s l) (fun s hi => ?_) (fun s j hj hi ih => ?_) r.length 0 none (by omega) rfl
  · simpa using this
  · exact Ev.step (f := fun _ => some true) (fun k => by simp only [spec_l01Rises.l0]; rw [if_neg (by omega)]) (Ev.now _)
  · have e1 : wrap64 (c - 1) = c - 1 := by unfold wrap64; omega
    have hn := ih (some r[j]) (by rw [if_neg (by omega)]; simp [hj])
    refine Ev.succ ?_
    simp only [spec_l01Rises.l0, show (j : Int) < (r.length : Int) from by omega, show (0 : Int) ≤ (j : Int) from by omega, if_true, rd_nat r j hj, e1, l01In_eq, Option.bind_some, wrap_succ j (by omega)]
    unfold risesF
    cases hb : inB r[j] 0 (c - 1) with
    | false => simpa using Ev.now false
    | true =>
      simp only [if_true, Bool.true_and]
      by_cases hz : j = 0
      · subst hz
        rw [hi, if_pos rfl]
        simpa using hn
      · rw [if_neg hz] at hi
        have hj1 : j - 1 < r.length := by omega
        have hs : s = some r[j - 1] := by rw [hi]; simp [hj1]
        have ew : wrap64 ((j : Int) - 1) = ((j - 1 : Nat) : Int) := by unfold wrap64; omega
        simp only [show (j : Int) > 0 from by omega, if_true, ew, show (0 : Int) ≤ ((j - 1 : Nat) : Int) from by omega, show ((j - 1 : Nat) : Int) < (r.length : Int) from by omega, rd_nat r (j - 1) hj1]
        rw [hs]
        by_cases hc : r[j] ≤ r[j - 1]
        · simp only [hc, if_true, decide_eq_false (show ¬ r[j - 1] < r[j] from by omega), Bool.false_and]
          exact Ev.now false
        · simp only [hc, if_false, decide_eq_true (show r[j - 1] < r[j] from by omega), Bool.true_and]
          exact hn
/-- Is it an instance? -/
def rowOk (C : Int) (r : List Int) : Bool := !r.isEmpty && risesF C none r
def coverOk (C Q : Int) (rows : List (List Int)) : Bool := inB C 1 60 && (inB Q 1 C && (decide (rows.length ≤ 400) && rows.all (rowOk C)))
theorem isCover_ev (C Q : Int) (rows : List (List Int)) (h : rows.length ≤ 1048576) (hr : ∀ r ∈ rows, r.length ≤ 1048576) : Ev (fun k => spec_IsCover.f k C Q rows) (coverOk C Q rows) := by
  unfold spec_IsCover.f coverOk
  simp only [l01In_eq, Option.bind_some]
  have hj : ∀ C Q, Ev (fun k => spec_IsCover.j0 k true C Q rows) false := fun C Q => Ev.step (f := fun _ => some false) (fun k => by simp only [spec_IsCover.j0, if_true]) (Ev.now _)
  cases h1 : inB C 1 60 with
  | false => simpa using hj C Q
  | true =>
    obtain ⟨c1, c2⟩ := (inB_iff _ _ _).1 h1
    simp only [if_true, Bool.true_and]
    cases h2 : inB Q 1 C with
    | false => simpa using hj C Q
    | true =>
      simp only [if_true, Bool.true_and]
      by_cases h3 : rows.length ≤ 400
      · rw [decide_eq_true h3, decide_eq_false (show ¬ ((rows.length : Int) > 400) from by omega)]
        refine Ev.step (f := fun k => spec_IsCover.l0 k 0 C Q rows) (fun k => by simp only [spec_IsCover.j0, Bool.false_eq_true, if_false]) ?_
        rw [Bool.true_and]
        refine ev_list0 rows (fun (_ : Unit) i k => spec_IsCover.l0 k i C Q rows) (fun _ l => l.all (rowOk C)) (fun s => ?_) (fun s j hj ih => ?_) ()
        · exact Ev.step (f := fun _ => some true) (fun k => by simp only [spec_IsCover.l0]; rw [if_neg (by omega)]) (Ev.now _)
        · have hg : rd_L1 rows (j : Int) = rows[j] := by unfold rd_L1; exact getD_nat rows _ j hj
          refine Ev.succ ?_
          simp only [spec_IsCover.l0, show (j : Int) < (rows.length : Int) from by omega, show (0 : Int) ≤ (j : Int) from by omega, if_true, hg, wrap_succ j (by omega)]
          rw [List.all_cons]
          rw [show rowOk C rows[j] = (!rows[j].isEmpty && risesF C none rows[j]) from rfl]
          by_cases hz : (rows[j].length : Int) = 0
          · have he : rows[j].isEmpty = true := by rw [List.isEmpty_iff_length_eq_zero]; omega
            simp only [hz, if_true, he]
            simpa using Ev.now false
          · simp only [hz, if_false]
            have he : rows[j].isEmpty = false := by
              cases hq : rows[j] with
              | nil => rw [hq] at hz; simp at hz
              | cons x xs => rfl
            rw [he]
            refine Ev.bind (l01Rises_ev rows[j] C (hr _ (List.getElem_mem hj)) (by omega) (by omega)) ?_
            cases risesF C none rows[j] with
            | false => simpa using Ev.now false
            | true => simpa using ih ()
      · rw [decide_eq_false h3, decide_eq_true (show (rows.length : Int) > 400 from by omega)]
        simpa using hj C Q
theorem risesF_spec (c : Int) : ∀ (r : List Int) (p : Option Int), risesF c p r = true → (∀ x ∈ r, 0 ≤ x ∧ x < c ∧ ∀ y, p = some y → y < x) ∧ r.Pairwise (· < ·)
  | [], p, _ => ⟨fun x hx => by simp at hx, List.Pairwise.nil⟩
  | x :: r, p, h => by
    unfold risesF at h
    simp only [Bool.and_eq_true, inB_iff] at h
    obtain ⟨h1, h2, h3⟩ := h
    obtain ⟨i1, i2⟩ := risesF_spec c r (some x) h3
    have hp : ∀ y, p = some y → y < x := by rintro y rfl; simpa using h2
    refine ⟨fun z hz => ?_, List.pairwise_cons.2 ⟨fun z hz => (i1 z hz).2.2 x rfl, i2⟩⟩
    rw [List.mem_cons] at hz
    rcases hz with rfl | hz
    · exact ⟨h1.1, by omega, hp⟩
    · obtain ⟨a, b, c'⟩ := i1 z hz
      exact ⟨a, b, fun y hy => Int.lt_trans (hp y hy) (c' x rfl)⟩
structure CovOk (C Q : Int) (rows : List (List Int)) : Prop where
  c1 : 1 ≤ C
  c60 : C ≤ 60
  q1 : 1 ≤ Q
  qc : Q ≤ C
  n400 : rows.length ≤ 400
  ins : ∀ r ∈ rows, ∀ x ∈ r, 0 ≤ x ∧ x < C
  up : ∀ r ∈ rows, r.Pairwise (· < ·)
  ne : ∀ r ∈ rows, r ≠ []
theorem coverOk_spec {C Q : Int} {rows : List (List Int)} (h : coverOk C Q rows = true) : CovOk C Q rows := by
  unfold coverOk at h
  simp only [Bool.and_eq_true, inB_iff, decide_eq_true_eq, List.all_eq_true] at h
  obtain ⟨⟨h1, h2⟩, ⟨h3, h4⟩, h5, h6⟩ := h
  have hr : ∀ r ∈ rows, r ≠ [] ∧ risesF C none r = true := fun r hr => by
    have := h6 r hr
    unfold rowOk at this
    simpa using this
  exact ⟨h1, h2, h3, h4, h5, fun r hm x hx => by have := ((risesF_spec C r none (hr r hm).2).1 x hx); exact ⟨this.1, this.2.1⟩, fun r hm => (risesF_spec C r none (hr r hm).2).2, fun r hm => (hr r hm).1⟩
theorem pair_len (C : Int) : ∀ (r : List Int) (lo : Int), r.Pairwise (· < ·) → (∀ x ∈ r, lo ≤ x ∧ x < C) → (r.length : Int) ≤ C - lo ∨ r = []
  | [], lo, _, _ => .inr rfl
  | [x], lo, _, h => .inl (by have := h x (by simp); simp; omega)
  | x :: y :: r, lo, hp, h => by
    rw [List.pairwise_cons] at hp
    have hx := h x (by simp)
    have := pair_len C (y :: r) (x + 1) hp.2 (fun z hz => ⟨by have := hp.1 z hz; omega, (h z (by simp [List.mem_cons.1 hz])).2⟩)
    rcases this with this | this
    · left
      simp only [List.length_cons] at this ⊢
      omega
    · cases this
theorem CovOk.len {C Q : Int} {rows : List (List Int)} (h : CovOk C Q rows) : ∀ r ∈ rows, r.length ≤ 60 := fun r hr => by
  have h1 := pair_len C r 0 (h.up r hr) (h.ins r hr)
  have h2 := h.c60
  rcases h1 with h1 | h1
  · omega
  · simp [h1]
theorem CovOk.row {C Q : Int} {rows : List (List Int)} (h : CovOk C Q rows) (i : Int) : (∀ x ∈ rwAt rows i, 0 ≤ x ∧ x < C) ∧ (rwAt rows i).length ≤ 60 := by
  unfold rwAt
  by_cases c : i.toNat < rows.length
  · have e : rows.getD i.toNat [] = rows[i.toNat] := by simp [c]
    rw [e]
    exact ⟨h.ins _ (List.getElem_mem c), h.len _ (List.getElem_mem c)⟩
  · have e : rows.getD i.toNat [] = [] := by rw [List.getD_eq_getElem?_getD, List.getElem?_eq_none (by omega)]; rfl
    rw [e]
    exact ⟨fun x hx => by simp at hx, by simp⟩
/-- In how many rows of a sequence a column is. -/
def occ (rows : List (List Int)) (seq : List Int) (k : Nat) : Nat := (seq.map fun i => (rwAt rows i).count (k : Int)).sum
def cntL (rows : List (List Int)) (C : Nat) (seq : List Int) : List Int := (List.range C).map fun k => (occ rows seq k : Int)
theorem occ_snoc (rows : List (List Int)) (seq : List Int) (i : Int) (k : Nat) : occ rows (seq ++ [i]) k = occ rows seq k + (rwAt rows i).count (k : Int) := by unfold occ; simp
theorem occ_le (rows : List (List Int)) (hr : ∀ i, (rwAt rows i).length ≤ 60) (seq : List Int) (k : Nat) : occ rows seq k ≤ 60 * seq.length := by
  induction seq with
  | nil => simp [occ]
  | cons i seq ih =>
    have h1 : (rwAt rows i).count (k : Int) ≤ 60 := Nat.le_trans List.count_le_length (hr i)
    unfold occ at ih ⊢
    simp only [List.map_cons, List.sum_cons, List.length_cons]
    omega
theorem occ_cov (rows : List (List Int)) (seq : List Int) (k : Nat) : (occ rows seq k = 0) ↔ cov rows seq k = false := by
  induction seq with
  | nil => simp [occ, cov]
  | cons i seq ih =>
    have e : cov rows (i :: seq) k = ((rwAt rows i).contains (k : Int) || cov rows seq k) := by unfold cov; rfl
    have e2 : occ rows (i :: seq) k = (rwAt rows i).count (k : Int) + occ rows seq k := by unfold occ; simp
    rw [e, e2, Bool.or_eq_false_iff, ← ih, Nat.add_eq_zero_iff, List.count_eq_zero]
    simp [List.contains_iff_mem]
theorem cntL_get (rows : List (List Int)) (C : Nat) (seq : List Int) (k : Int) (h0 : 0 ≤ k) (h1 : k < C) : rd (cntL rows C seq) k = (occ rows seq k.toNat : Int) := by
  rw [rd_at _ _ h0 (by simp [cntL]; omega)]
  simp [cntL]
/-- Counts while a row is gone through. -/
def cntR (rows : List (List Int)) (C : Nat) (seq : List Int) (part : List Int) : List Int := (List.range C).map fun k => ((occ rows seq k + part.count (k : Int) : Nat) : Int)
theorem cntR_nil (rows : List (List Int)) (C : Nat) (seq : List Int) : cntR rows C seq [] = cntL rows C seq := by unfold cntR cntL; simp
theorem cntR_all (rows : List (List Int)) (C : Nat) (seq : List Int) (i : Int) : cntR rows C seq (rwAt rows i) = cntL rows C (seq ++ [i]) := by unfold cntR cntL; simp only [occ_snoc]
theorem cntR_get (rows : List (List Int)) (C : Nat) (seq part : List Int) (k : Int) (h0 : 0 ≤ k) (h1 : k < C) : rd (cntR rows C seq part) k = ((occ rows seq k.toNat + part.count k : Nat) : Int) := by
  rw [rd_at _ _ h0 (by simp [cntR]; omega)]
  have e : ((k.toNat : Nat) : Int) = k := by omega
  simp [cntR, e]
theorem cntR_step (rows : List (List Int)) (C : Nat) (seq part : List Int) (x : Int) (h0 : 0 ≤ x) (h1 : x < C) : (cntR rows C seq part).set x.toNat (((occ rows seq x.toNat + part.count x : Nat) : Int) + 1) = cntR rows C seq (part ++ [x]) := by
  apply List.ext_getElem (by simp [cntR])
  intro j h2 h3
  have hj : j < C := by simpa [cntR] using h3
  rw [List.getElem_set]
  split
  · rename_i e
    subst e
    have e : ((x.toNat : Nat) : Int) = x := by omega
    simp [cntR, e]
    omega
  · rename_i e
    have hne : ¬ x = (j : Int) := by omega
    simp [cntR, List.count_cons, hne]
theorem counts_ev {C Q : Int} {rows : List (List Int)} (h : CovOk C Q rows) (seq : List Int) (hs : seq.length ≤ 1048576) (hi : ∀ i ∈ seq, 0 ≤ i ∧ i < rows.length) : Ev (fun k => spec_l13Counts.f k C Q rows seq) (cntL rows C.toNat seq) := by
  have c1 := h.c1
  have c60 := h.c60
  have eC : ((C.toNat : Nat) : Int) = C := by omega
  unfold spec_l13Counts.f
  simp only [show (0 : Int) ≤ C from by omega, if_true, show C.toNat ≤ 35184372088832 from by omega]
  refine ev_at seq.length (fun (s : List Int) j => s = cntL rows C.toNat (seq.take j)) (cntL rows C.toNat seq) (fun s i k => spec_l13Counts.l0 k seq s i C Q rows) (fun s hv => ?_) (fun s j hj hv => ?_) _ ?_
  · refine Ev.step (f := fun _ => some s) (fun k => by simp only [spec_l13Counts.l0]; rw [if_neg (by omega)]) ?_
    rw [hv, List.take_length]
    exact Ev.now _
  · have hij := hi _ (List.getElem_mem hj)
    obtain ⟨hrow, hlen⟩ := h.row seq[j]
    refine ⟨cntL rows C.toNat (seq.take (j + 1)), rfl, fun h2 => Ev.succ ?_⟩
    simp only [spec_l13Counts.l0, show (j : Int) < (seq.length : Int) from by omega, show (0 : Int) ≤ (j : Int) from by omega, if_true, rd_nat seq j hj, hij.1, hij.2, rdL_at]
    refine ev_at (rwAt rows seq[j]).length (fun (t : List Int) m => t = cntR rows C.toNat (seq.take j) ((rwAt rows seq[j]).take m)) _ (fun t i k => spec_l13Counts.l1 k seq t j (rwAt rows seq[j]) i C Q rows) (fun t ht => ?_) (fun t m hm ht => ?_) s ?_
    · refine Ev.step (f := fun k => spec_l13Counts.l0 k seq t ((j + 1 : Nat) : Int) C Q rows) (fun k => by simp only [spec_l13Counts.l1]; rw [if_neg (by omega), wrap_succ j (by omega)]) ?_
      rw [ht, List.take_length, cntR_all, ← List.take_succ_eq_append_getElem hj]
      exact h2
    · have hx := hrow _ (List.getElem_mem hm)
      have hocc := occ_le rows (fun i => (h.row i).2) (seq.take j) (rwAt rows seq[j])[m].toNat
      have hcnt : ((rwAt rows seq[j]).take m).count (rwAt rows seq[j])[m] ≤ 60 := Nat.le_trans List.count_le_length (by rw [List.length_take]; omega)
      have hlt : (seq.take j).length ≤ seq.length := by rw [List.length_take]; omega
      have hl : (t.length : Int) = C := by rw [ht]; simp [cntR]; omega
      refine ⟨cntR rows C.toNat (seq.take j) ((rwAt rows seq[j]).take (m + 1)), rfl, fun h3 => Ev.step (fun k => ?_) h3⟩
      simp only [spec_l13Counts.l1]
      rw [if_pos (by omega), if_pos (by omega), rd_nat _ m hm, if_pos hx.1, if_pos (by omega), wrap_succ m (by omega)]
      rw [ht, cntR_get rows C.toNat _ _ _ hx.1 (by omega)]
      rw [show wrap64 (((occ rows (seq.take j) (rwAt rows seq[j])[m].toNat + ((rwAt rows seq[j]).take m).count (rwAt rows seq[j])[m] : Nat) : Int) + 1) = ((occ rows (seq.take j) (rwAt rows seq[j])[m].toNat + ((rwAt rows seq[j]).take m).count (rwAt rows seq[j])[m] : Nat) : Int) + 1 from by unfold wrap64; omega]
      rw [cntR_step rows C.toNat _ _ _ hx.1 (by omega), ← List.take_succ_eq_append_getElem hm]
    · rw [hv, List.take_zero, cntR_nil]
  · apply List.ext_getElem (by simp [cntL])
    intro j h2 h3
    simp [cntL, occ]
def hasRows (rows : List (List Int)) (col : Int) (n : Nat) : List Int := ((List.range n).filter fun j => (rows.getD j []).contains col).map fun (j : Nat) => (j : Int)
theorem hasRows_succ (rows : List (List Int)) (col : Int) (n : Nat) : hasRows rows col (n + 1) = hasRows rows col n ++ (if (rows.getD n []).contains col = true then [(n : Int)] else []) := by
  unfold hasRows
  rw [List.range_succ, List.filter_append, List.map_append]
  congr 1
  rw [List.filter_cons]
  split <;> rfl
theorem hasRows_len (rows : List (List Int)) (col : Int) (n : Nat) : (hasRows rows col n).length ≤ n := by
  unfold hasRows
  rw [List.length_map]
  exact Nat.le_trans (List.length_filter_le _ _) (by simp)
theorem rows_ev {C Q : Int} {rows : List (List Int)} (h : CovOk C Q rows) (col : Int) : Ev (fun k => spec_l13Rows.f k C Q rows col) (hasRows rows col rows.length) := by
  have hn := h.n400
  unfold spec_l13Rows.f
  refine ev_at rows.length (fun (s : List Int) j => s = hasRows rows col j) _ (fun s i k => spec_l13Rows.l0 k col s i C Q rows) (fun s hv => ?_) (fun s j hj hv => ?_) [] (by simp [hasRows])
  · refine Ev.step (f := fun _ => some s) (fun k => by simp only [spec_l13Rows.l0]; rw [if_neg (by omega)]) ?_
    rw [hv]
    exact Ev.now _
  · have hg : rd_L1 rows (j : Int) = rows.getD j [] := rfl
    have hg2 : rows.getD j [] = rows[j] := by simp [hj]
    have hl := hasRows_len rows col j
    refine ⟨hasRows rows col (j + 1), rfl, fun h2 => Ev.succ ?_⟩
    simp only [spec_l13Rows.l0, show (j : Int) < (rows.length : Int) from by omega, show (0 : Int) ≤ (j : Int) from by omega, if_true, hg, wrap_succ j (by omega)]
    refine Ev.bind (l01Has_ev (rows.getD j []) col (by rw [hg2]; have := h.len _ (List.getElem_mem hj); omega)) ?_
    rw [hasRows_succ] at h2
    cases hc : (rows.getD j []).contains col with
    | true =>
      rw [if_pos hc] at h2
      simp only [if_true, show s.length < 17592186044416 from by rw [hv]; omega]
      rw [hv]
      exact h2
    | false =>
      rw [if_neg (by rw [hc]; decide), List.append_nil] at h2
      simp only [Bool.false_eq_true, if_false]
      rw [hv]
      exact h2
theorem openRows_filter (rows : List (List Int)) (seq : List Int) (col : Int) : openRows rows seq col = (hasRows rows col rows.length).filter fun i => openR rows seq (rwAt rows i) := by
  unfold openRows hasRows
  rw [List.filter_map, List.filter_filter]
  congr 1
  apply List.filter_congr
  intro j _
  rw [Bool.and_comm]
  rfl
theorem openRows_len (rows : List (List Int)) (seq : List Int) (col : Int) : (openRows rows seq col).length ≤ rows.length := by
  rw [openRows_filter]
  exact Nat.le_trans (List.length_filter_le _ _) (hasRows_len _ _ _)
theorem hasRows_in (rows : List (List Int)) (col : Int) (n : Nat) : ∀ i ∈ hasRows rows col n, 0 ≤ i ∧ i < n := by
  intro i hi
  unfold hasRows at hi
  rw [List.mem_map] at hi
  obtain ⟨j, hj, rfl⟩ := hi
  have := (List.mem_filter.1 hj).1
  rw [List.mem_range] at this
  omega
theorem open_ev {C Q : Int} {rows : List (List Int)} (h : CovOk C Q rows) (seq : List Int) (col : Int) : Ev (fun k => spec_l14Open.f k C Q rows (cntL rows C.toNat seq) col) (openRows rows seq col) := by
  have hn := h.n400
  have c1 := h.c1
  unfold spec_l14Open.f
  refine Ev.bind (rows_ev h col) ?_
  rw [openRows_filter]
  have hL := hasRows_len rows col rows.length
  have hIn := hasRows_in rows col rows.length
  obtain ⟨L, hLe⟩ : ∃ L, L = hasRows rows col rows.length := ⟨_, rfl⟩
  rw [← hLe] at hL hIn ⊢
  refine ev_at L.length (fun (s : List Int) j => s = (L.take j).filter fun i => openR rows seq (rwAt rows i)) _ (fun s i k => spec_l14Open.l0 k (cntL rows C.toNat seq) L s i C Q rows) (fun s hv => ?_) (fun s j hj hv => ?_) [] (by simp)
  · refine Ev.step (f := fun _ => some s) (fun k => by simp only [spec_l14Open.l0]; rw [if_neg (by omega)]) ?_
    rw [hv, List.take_length]
    exact Ev.now _
  · have hij := hIn _ (List.getElem_mem hj)
    obtain ⟨hrow, hlen⟩ := h.row L[j]
    have hsl : s.length ≤ L.length := by rw [hv]; exact Nat.le_trans (List.length_filter_le _ _) (by rw [List.length_take]; omega)
    refine ⟨_, rfl, fun h2 => Ev.succ ?_⟩
    rw [List.take_succ_eq_append_getElem hj, List.filter_append, ← hv] at h2
    simp only [spec_l14Open.l0, show (j : Int) < (L.length : Int) from by omega, show (0 : Int) ≤ (j : Int) from by omega, if_true, rd_nat L j hj, hij.1, hij.2, rdL_at]
    refine ev_at (rwAt rows L[j]).length (fun (b : Bool) m => b = openR rows seq ((rwAt rows L[j]).take m)) _ (fun b i k => spec_l14Open.l1 k (cntL rows C.toNat seq) L s j b (rwAt rows L[j]) i C Q rows) (fun b hb => ?_) (fun b m hm hb => ?_) true (by simp [openR])
    · rw [List.take_length] at hb
      refine Ev.succ ?_
      simp only [spec_l14Open.l1, show ¬ (((rwAt rows L[j]).length : Int) < ((rwAt rows L[j]).length : Int)) from by omega, if_false, wrap_succ j (by omega)]
      cases b with
      | true =>
        simp only [if_true, show (0 : Int) ≤ (j : Int) from by omega, show (j : Int) < (L.length : Int) from by omega, show s.length < 17592186044416 from by omega, rd_nat L j hj]
        rw [List.filter_cons, ← hb, if_pos rfl] at h2
        exact h2
      | false =>
        simp only [Bool.false_eq_true, if_false]
        rw [List.filter_cons, ← hb, if_neg (by decide), List.filter_nil, List.append_nil] at h2
        exact h2
    · have hx := hrow _ (List.getElem_mem hm)
      have e : openR rows seq ((rwAt rows L[j]).take (m + 1)) = (openR rows seq ((rwAt rows L[j]).take m) && !cov rows seq (rwAt rows L[j])[m]) := by
        unfold openR
        rw [List.take_succ_eq_append_getElem hm, List.all_append]
        simp only [List.all_cons, List.all_nil, Bool.and_true]
      refine ⟨_, rfl, fun h3 => Ev.succ ?_⟩
      rw [e, ← hb] at h3
      have hcl : ((cntL rows C.toNat seq).length : Int) = C := by simp [cntL]; omega
      simp only [spec_l14Open.l1, show (m : Int) < ((rwAt rows L[j]).length : Int) from by omega, if_true, wrap_succ m (by omega), show (0 : Int) ≤ (m : Int) from by omega, rd_nat _ m hm, hx.1, hcl, hx.2]
      cases b with
      | true =>
        simp only [if_true]
        rw [Bool.true_and] at h3
        have ez : (rd (cntL rows C.toNat seq) (rwAt rows L[j])[m] == 0) = !cov rows seq (rwAt rows L[j])[m] := by
          rw [cntL_get _ _ _ _ hx.1 (by omega)]
          have := occ_cov rows seq (rwAt rows L[j])[m].toNat
          rw [show (((rwAt rows L[j])[m].toNat : Nat) : Int) = (rwAt rows L[j])[m] from by omega] at this
          cases hc : cov rows seq (rwAt rows L[j])[m] with
          | true =>
            rw [hc] at this
            have : ¬ occ rows seq (rwAt rows L[j])[m].toNat = 0 := fun e => Bool.noConfusion (this.1 e)
            simpa using this
          | false => simpa using this.2 hc
        rw [ez]
        exact h3
      | false =>
        simp only [Bool.false_eq_true, if_false]
        rw [Bool.false_and] at h3
        exact h3
theorem column_ev {C Q : Int} {rows : List (List Int)} (h : CovOk C Q rows) (seq : List Int) (hs : seq.length ≤ 1048576) (hi : ∀ i ∈ seq, 0 ≤ i ∧ i < rows.length) : Ev (fun k => spec_l14Column.f k C Q rows seq) (colV rows Q.toNat seq) := by
  have c1 := h.c1
  have c60 := h.c60
  have q1 := h.q1
  have qc := h.qc
  have eQ : ((Q.toNat : Nat) : Int) = Q := by omega
  unfold spec_l14Column.f
  refine Ev.bind (counts_ev h seq hs hi) ?_
  have hcl : ((cntL rows C.toNat seq).length : Int) = C := by simp [cntL]; omega
  have := ev_at Q.toNat (fun (s : Int × Nat) j => s = (List.range j).foldl (colStep rows seq) (-1, 0)) (colV rows Q.toNat seq) (fun s i k => spec_l14Column.l0 k (cntL rows C.toNat seq) s.1 (s.2 : Int) i C Q rows) (fun s hv => ?_) (fun s j hj hv => ?_) (-1, 0) (by simp)
  · simpa using this
  · refine Ev.step (f := fun _ => some s.1) (fun k => by simp only [spec_l14Column.l0]; rw [if_neg (by omega)]) ?_
    rw [hv]
    exact Ev.now _
  · refine ⟨colStep rows seq s j, by rw [List.range_succ, List.foldl_append, ← hv]; rfl, fun h2 => Ev.succ ?_⟩
    simp only [spec_l14Column.l0, show (j : Int) < Q from by omega, show (0 : Int) ≤ (j : Int) from by omega, if_true, hcl, show (j : Int) < C from by omega, cntL_get rows C.toNat seq (j : Int) (by omega) (by omega), Int.toNat_natCast, wrap_succ j (by omega)]
    have ho := occ_cov rows seq j
    unfold colStep at h2
    cases hc : cov rows seq (j : Int) with
    | true =>
      rw [if_pos hc] at h2
      rw [hc] at ho
      have : ¬ occ rows seq j = 0 := fun e => Bool.noConfusion (ho.1 e)
      simp only [show ((occ rows seq j : Nat) : Int) > 0 from by omega, if_true]
      exact h2
    | false =>
      rw [if_neg (by rw [hc]; decide)] at h2
      have h0 := ho.2 hc
      simp only [h0, show ¬ (((0 : Nat) : Int) > 0) from by omega, if_false]
      refine Ev.bind (open_ev h seq j) ?_
      by_cases d : s.1 < 0
      · rw [if_pos (.inl d)] at h2
        simp only [d, if_true]
        exact h2
      · simp only [d, if_false]
        by_cases d2 : (openRows rows seq j).length < s.2
        · rw [if_pos (.inr d2)] at h2
          simp only [show ((openRows rows seq (j : Int)).length : Int) < (s.2 : Int) from by omega, if_true]
          exact h2
        · rw [if_neg (by omega)] at h2
          simp only [show ¬ (((openRows rows seq (j : Int)).length : Int) < (s.2 : Int)) from by omega, if_false]
          exact h2
end Go.Proofs.YtoglcgnbkibpgaaDoor.A

/- Nodes of the search for covers: what stays true on the way down. Plain law. -/
namespace Go.Proofs.YtoglcgnbkibpgaaDoor.A
set_option linter.unusedSimpArgs false
set_option linter.unusedVariables false
open Go.RowKit Go.Proofs.YtoglcgnbkibpgaaDoorW.PrintWords Go.Proofs.YtoglcgnbkibpgaaDoorW.PrintLast Go.Proofs.YtoglcgnbkibpgaaDoorW.PrintMore Go.Proofs.YtoglcgnbkibpgaaDoorW.Cov Go.Proofs.YtoglcgnbkibpgaaDoorW.Tree
def uncov (rows : List (List Int)) (Q : Nat) (seq : List Int) : Nat := (List.range Q).countP fun (k : Nat) => !cov rows seq k
theorem countP_less {α : Type} (p q : α → Bool) : ∀ (l : List α), (∀ x ∈ l, q x = true → p x = true) → (∃ x ∈ l, p x = true ∧ q x = false) → l.countP q + 1 ≤ l.countP p
  | [], _, h => by obtain ⟨x, hx, _⟩ := h; simp at hx
  | a :: l, hpq, h => by
    have hle : l.countP q ≤ l.countP p := by
      clear h
      induction l with
      | nil => simp
      | cons b l ih =>
        have i1 := ih (fun x hx => hpq x (by simp at hx ⊢; rcases hx with rfl | hx <;> simp_all))
        have i2 := hpq b (by simp)
        simp only [List.countP_cons]
        cases hq : q b with
        | true => rw [i2 hq]; simp; omega
        | false => simp; omega
    have ia := hpq a (by simp)
    simp only [List.countP_cons]
    obtain ⟨x, hx, h1, h2⟩ := h
    rw [List.mem_cons] at hx
    rcases hx with rfl | hx
    · rw [h1, h2]; simp; omega
    · have := countP_less p q l (fun x hx => hpq x (by simp [hx])) ⟨x, hx, h1, h2⟩
      cases hq : q a with
      | true => rw [ia hq]; simp; omega
      | false => simp; omega
theorem colV_in (rows : List (List Int)) (Q : Nat) (seq : List Int) (h : 0 ≤ colV rows Q seq) : colV rows Q seq < (Q : Int) ∧ cov rows seq (colV rows Q seq) = false := by
  have key : ∀ (ks : List Nat) (b : Int × Nat), (∀ k ∈ ks, k < Q) → (0 ≤ b.1 → b.1 < (Q : Int) ∧ cov rows seq b.1 = false) → (0 ≤ (ks.foldl (colStep rows seq) b).1 → (ks.foldl (colStep rows seq) b).1 < (Q : Int) ∧ cov rows seq (ks.foldl (colStep rows seq) b).1 = false) := by
    intro ks
    induction ks with
    | nil => intro b _ hb; exact hb
    | cons k ks ih =>
      intro b hk hb
      rw [List.foldl_cons]
      refine ih _ (fun m hm => hk m (by simp [hm])) (fun h0 => ?_)
      unfold colStep at h0 ⊢
      by_cases hc : cov rows seq (k : Int) = true
      · rw [if_pos hc] at h0 ⊢
        exact hb h0
      · rw [if_neg hc] at h0 ⊢
        split
        · exact ⟨by have := hk k (by simp); dsimp only; omega, by simpa using hc⟩
        · rename_i hn
          rw [if_neg hn] at h0
          exact hb h0
  exact key (List.range Q) (-1, 0) (fun k hk => by simpa using hk) (fun h => absurd h (by decide)) h
structure NodeOk (rows : List (List Int)) (Q d : Nat) (seq : List Int) : Prop where
  idx : ∀ i ∈ seq, 0 ≤ i ∧ i < (rows.length : Int)
  dep : uncov rows Q seq ≤ d
  len : seq.length + d ≤ 64
theorem NodeOk.root (rows : List (List Int)) (Q : Nat) (h : Q ≤ 60) : NodeOk rows Q Q [] := ⟨fun i hi => by simp at hi, by unfold uncov; exact Nat.le_trans List.countP_le_length (by simp), by simp; omega⟩
theorem openRows_mem {rows : List (List Int)} {seq : List Int} {col j : Int} (h : j ∈ openRows rows seq col) : 0 ≤ j ∧ j < (rows.length : Int) ∧ (rwAt rows j).contains col = true ∧ openR rows seq (rwAt rows j) = true := by
  unfold openRows at h
  rw [List.mem_map] at h
  obtain ⟨n, hn, rfl⟩ := h
  rw [List.mem_filter, List.mem_range, Bool.and_eq_true] at hn
  exact ⟨by omega, by omega, hn.2.1, hn.2.2⟩
theorem uncov_pos {rows : List (List Int)} {Q : Nat} {seq : List Int} (h : 0 ≤ colV rows Q seq) : 1 ≤ uncov rows Q seq := by
  obtain ⟨h1, h2⟩ := colV_in rows Q seq h
  unfold uncov
  rw [Nat.one_le_iff_ne_zero, Ne, List.countP_eq_zero]
  intro hall
  have := hall (colV rows Q seq).toNat (by rw [List.mem_range]; omega)
  rw [show (((colV rows Q seq).toNat : Nat) : Int) = colV rows Q seq from by omega, h2] at this
  exact this rfl
theorem NodeOk.next {rows : List (List Int)} {Q d : Nat} {seq : List Int} (h : NodeOk rows Q (d + 1) seq) (hc : 0 ≤ colV rows Q seq) {j : Int} (hj : j ∈ openRows rows seq (colV rows Q seq)) : NodeOk rows Q d (seq ++ [j]) := by
  obtain ⟨j0, j1, j2, j3⟩ := openRows_mem hj
  obtain ⟨c1, c2⟩ := colV_in rows Q seq hc
  refine ⟨fun i hi => ?_, ?_, by have := h.len; simp; omega⟩
  · rw [List.mem_append, List.mem_singleton] at hi
    rcases hi with hi | rfl
    · exact h.idx i hi
    · exact ⟨j0, j1⟩
  · have hs : ∀ k : Int, cov rows (seq ++ [j]) k = (cov rows seq k || (rwAt rows j).contains k) := fun k => by unfold cov; simp [List.any_append]
    have := countP_less (fun k : Nat => !cov rows seq k) (fun k : Nat => !cov rows (seq ++ [j]) k) (List.range Q) (fun k _ hk => by
      simp only [hs, Bool.not_or, Bool.and_eq_true] at hk
      exact hk.1) ⟨(colV rows Q seq).toNat, by rw [List.mem_range]; omega, by rw [show (((colV rows Q seq).toNat : Nat) : Int) = colV rows Q seq from by omega, c2]; rfl, by rw [show (((colV rows Q seq).toNat : Nat) : Int) = colV rows Q seq from by omega, hs, j2]; simp⟩
    have h2 := h.dep
    unfold uncov at h2 ⊢
    omega
section
variable (rows : List (List Int)) (Q : Nat) (limit most : Int) (seq : List Int) (s : VS (List Int))
theorem visit_lim (d : Nat) (c : s.steps + 1 > limit) : visitG (leafC rows Q) (kidsC rows Q) limit most d seq s = ⟨s.steps + 1, s.found, true⟩ := by unfold visitG; rw [if_pos c]
theorem visit_leaf (d : Nat) (c : ¬ s.steps + 1 > limit) (hc : colV rows Q seq < 0) : visitG (leafC rows Q) (kidsC rows Q) limit most d seq s = ⟨s.steps + 1, s.found ++ [seq], s.over⟩ := by
  unfold visitG
  rw [if_neg c, show leafC rows Q seq = some seq from by unfold leafC; rw [if_pos hc]]
theorem visit_kids (d : Nat) (c : ¬ s.steps + 1 > limit) (hc : 0 ≤ colV rows Q seq) : visitG (leafC rows Q) (kidsC rows Q) limit most (d + 1) seq s = foldV most (visitG (leafC rows Q) (kidsC rows Q) limit most d) ((openRows rows seq (colV rows Q seq)).map fun j => seq ++ [j]) ⟨s.steps + 1, s.found, s.over⟩ := by
  conv => lhs; unfold visitG
  rw [if_neg c, show leafC rows Q seq = none from by unfold leafC; rw [if_neg (by omega)]]
  rfl
end
theorem fold_stop' {N β : Type} (most : Int) (visit : N → VS β → VS β) (l : List N) (s : VS β) (h : s.over = true ∨ ¬ (s.found.length : Int) < most) : foldV most visit l s = s := by
  refine foldV_stop most visit l s ?_
  unfold stopV
  rcases h with h | h
  · rw [h]; rfl
  · rw [decide_eq_false h]; simp
theorem fold_step {β : Type} (most : Int) (visit : List Int → VS β → VS β) (seq L : List Int) (i : Nat) (x : Int) (hi : i < L.length) (hx : L[i] = x) (s : VS β) (h1 : s.over = false) (h2 : (s.found.length : Int) < most) : foldV most visit ((L.drop i).map fun j => seq ++ [j]) s = foldV most visit ((L.drop (i + 1)).map fun j => seq ++ [j]) (visit (seq ++ [x]) s) := by
  rw [List.drop_eq_getElem_cons hi, List.map_cons, foldV, if_neg (by unfold stopV; rw [h1, decide_eq_true h2]; decide), hx]
end Go.Proofs.YtoglcgnbkibpgaaDoor.A

namespace Go.Proofs.YtoglcgnbkibpgaaDoor.A
open Go.RowKit Go.Proofs.YtoglcgnbkibpgaaDoorW.PrintWords Go.Proofs.YtoglcgnbkibpgaaDoorW.PrintLast Go.Proofs.YtoglcgnbkibpgaaDoorW.PrintMore
attribute [local go_sem] max2_int min2_int max_two min_two max_three min_three max_four min_four   -- for this text's walks alone
set_option linter.unusedVariables false
set_option linter.unusedSimpArgs false
def spec_l01Own.f (l0 : List Int) : Option (List Int) := (some (([] : List Int) : List Int)).bind fun y157 => (if y157.length + l0.length < 17592186044416 then (some (y157 ++ l0)) else (none))
set_option maxHeartbeats 8000000 in
set_option maxRecDepth 100000 in
theorem spec_l01Own.calls (A0 : Option Addr) (c0 : Nat) (l0 : List Int) (r : List Int) (w : World) (hr0 : Kd.C (Kd.int .i64) w A0 l0.length l0) (hc0 : l0.length ≤ c0) (h : spec_l01Own.f l0 = some r) :
    Calls Tryd.prog 87 #[.slice A0 l0.length c0] w fun e w' => ∃ v0_ : Value, e = .returned (v0_) ∧ Kd.R (Kd.int .i64) 2 w' w.heap.size (fun _ => True) v0_ r ∧ Below w.heap.size w w' := by
 (have HR0 := A0_ hr0); (have HC0 := A0_ hc0); clear hr0 hc0; (have HB := A0_ (Below.refl w.heap.size w))
 have H : ((some (([] : List Int) : List Int)).bind fun y157 => (if y157.length + l0.length < 17592186044416 then (some (y157 ++ l0)) else (none))) = some r := h
 clear h; (obtain ⟨y157, hy157⟩ : ∃ y_ : List Int, y_ = (([] : List Int)) := ⟨_, rfl⟩); (replace H : (if y157.length + l0.length < 17592186044416 then (some (y157 ++ l0)) else (none)) = some r := by first | (rw [hy157]; with_reducible exact H) | (have H2_ := (Option.bind_some _ _).symm.trans H; rw [hy157]; with_reducible exact H2_) | (have H2_ := (Option.bind_some _ _).symm.trans H; with_reducible exact H2_) | with_reducible exact H | (rw [hy157]; exact H) | exact H); (have Ny157 := A0_ hy157); clear hy157; (by_cases c2 : y157.length + l0.length < 17592186044416)
 ·(rw [if_pos c2] at H); (have LMc2 := A0_ c2); clear c2; (obtain ⟨y160, hy160⟩ : ∃ y_ : List Int, y_ = (y157 ++ l0) := ⟨_, rfl⟩); (replace H : (some y160) = some r := by first | (rw [hy160]; with_reducible exact H) | (have H2_ := (Option.bind_some _ _).symm.trans H; rw [hy160]; with_reducible exact H2_) | (have H2_ := (Option.bind_some _ _).symm.trans H; with_reducible exact H2_) | with_reducible exact H | (rw [hy160]; exact H) | exact H); (have Ny160 := A0_ hy160); clear hy160; (obtain rfl := Option.some.inj H); (go_enter Tryd.func87, Tryd.ntmps87)
  go_wp2_with (first | ((with_reducible refine gate_dst (N := 3) rfl ?_); refine Kd.R_lit (Kd.int .i64) _ 2 ?hg (N := 3) ?hd (xs := ([] : List Int)) (inner := []) (ok := fun _ => True) (okp := fun _ => True) ?hr ?hp (fun _ hk => hk) trivial (Below.refl _ _) (Nat.le_refl _) (by simp) ?_; (case hd => rfl); (case hg => rfl); (case hr => first | (go_simp; done) | (go_simp; rfl)); (case hp => exact (Reps.none _ _)); intro v158 w3 ho4 hb hg_ hnew_; clear hg_ hnew_; (first | rw [← Ny157.out] at ho4 | (simp only [Int.reduceToNat] at ho4; rw [← Ny157.out] at ho4)); have n0_ := A0_ (Kd.R_lower ho4 (below_size (by repeat (first | (with_reducible first | exact HB.out | apply ba_ | apply bn_ | apply bd_) | exact HB.out)))); have n1_ := A0_ (below_step (by repeat (first | (with_reducible first | exact HB.out | apply ba_ | apply bn_ | apply bd_) | exact HB.out)) hb); clear HB; have HO159 := n0_; have HB := n1_; clear n0_ n1_; clear hb ho4) | ((with_reducible refine gate_builtin (b := .append) (xs := #[.tmp 3, .tmp 4]) rfl ?_); at_builtin; refine Kd.R_append_rows (Kd.int .i64) (w0 := w) w.heap.size rfl (.tmp 3) (.tmp 4) 32 2 (.int .i64 0) 8 rfl Tryd.underlying32 info2 rfl (by decide) (by omega) v158 y157 l0 _ _ _ (fun _ => True) (fun _ => False) rfl rfl ?aO ?aR (fun _ _ h => h) (fun _ h => h.elim) ?aF ?aB ?aS ?aL ?_; (case aR => repeat (first | exact (Kd.C_below HR0.out HB.out) | (with_reducible refine Kd.C_alloc ?_ _) | (with_reducible refine Kd.C_drewN ?_ _) | (with_reducible refine Kd.C_drew ?_))); (case aB => exact (by repeat (first | (with_reducible first | exact HB.out | apply ba_ | apply bn_ | apply bd_) | exact HB.out))); (case aF => exact (fun _ _ => trivial)); (case aO => exact (by (with_reducible repeat (first | apply Ra_ | apply Rn_ | apply Rd_)); exact HO159.out)); (case aS => exact (below_size (by repeat (first | (with_reducible first | exact HB.out | apply ba_ | apply bn_ | apply bd_) | exact HB.out)))); (case aL => have := LMc2.out; omega); intro v161 w5 ho hb hg hat; rw [← Ny160.out] at ho; have n0_ := A0_ (hb); have n1_ := A0_ (ho); clear HB; clear HO159; have HB := n0_; have HO162 := n1_; clear n0_ n1_; clear ho hb hg hat))
  go_ret; (exact ⟨_, by first | rfl | (simp [errW_none, errW_some] <;> rfl) | (simp [*, errW_none, errW_some] <;> rfl), by (with_reducible repeat (first | apply Ra_ | apply Rn_ | apply Rd_)); exact HO162.out, by repeat (first | (with_reducible first | exact HB.out | apply ba_ | apply bn_ | apply bd_) | exact HB.out)⟩)
 ·(rw [if_neg c2] at H); (exact absurd H (by simp))
end Go.Proofs.YtoglcgnbkibpgaaDoor.A

