/- What the row of the law FnLeaving stands on, part 1. -/
import Derived.Test.YtcobnlilmihjfaaProg
import Derived.Below
import Derived.Deep.Draws
import Derived.Deep.AppendLies
import Derived.Maps.AppendAt
import Derived.OwnWalk
import Derived.Laws.BytesArg
import Derived.Laws.MakeOwn
import Derived.Laws.OwnMore
import Derived.Deep.OwnRows
import Derived.Tactics
import Derived.Lib.ConvBytes
import Derived.Laws.Slices
import Derived.WalkKit
import Derived.KernelRfl
import Derived.RowKit3
import Derived.Deep.LoopGhost
import Derived.Deep.QuietTactic
import Derived.BigQuiet
import Derived.WideLaws
import Derived.Deep.DeepCutAuto
import Derived.Deep.CutBlock
import Derived.Deep.RegionHeld3
import Derived.Laws.Rows
import Derived.Lib.AppendStr
import Derived.ArgAppend
import Derived.Laws.IdiomCopy
import Derived.OrdersHeld
import Derived.Laws.BitsLemmas
import Derived.RowKit
import Derived.Maps.OwnSet
import Derived.DeepKeys4
import Derived.Ground.SlgmProg
import Derived.Shelf.SlicesE.Delete
import Derived.Lib.OwnBridge
import Derived.Deep.CutRange
import Derived.Deep.Slices
import Derived.ChangeArms
import Derived.WideShapes
import Derived.OpenShut
import Derived.ChangeOld
import Derived.ProofKit
import Derived.ShutString
import Derived.SizedLaws
import Derived.Test.YtcobnlilmihjfaaMFnLeaving0
/- Small words of this session's walks: where a walk is to stop. -/
namespace Go.Proofs.YtcobnlilmihjfaaW.PrintMore
structure Stop0 (p : Prop) : Prop where mk :: (out : p)
end Go.Proofs.YtcobnlilmihjfaaW.PrintMore
namespace Go.Proofs.YtcobnlilmihjfaaW.PrintWords
abbrev tt : Bool := true
abbrev ff : Bool := false
theorem A0_ {p : Prop} (h : p) : Aside0 p := ⟨h⟩
theorem sia_ {α : Type} (l : List α) (i : Nat) (a : α) : l.toArray.setIfInBounds i a = (l.set i a).toArray := List.setIfInBounds_toArray ..
theorem sz_ {α : Type} {l : List α} {a b : α} : (a :: l).set 0 b = b :: l := List.set_cons_zero ..
theorem ss_ {α : Type} {l : List α} {n : Nat} {a b : α} : (a :: l).set (n + 1) b = a :: l.set n b := List.set_cons_succ ..
end Go.Proofs.YtcobnlilmihjfaaW.PrintWords
namespace Go.Proofs.YtcobnlilmihjfaaW.PrintWords
open Go.RowKit
theorem ba_ {w W : World} (h : Below w.heap.size w W) (o : Obj) : Below w.heap.size w (W.alloc o) := below_alloc h o
theorem bn_ {B : Nat} {w W : World} (h : Below B w W) (n : Nat) : Below B w (W.drewN n) := pw_below_drewN h n
theorem bd_ {B : Nat} {w W : World} (h : Below B w W) : Below B w W.drew := below_drew1 h
theorem ks_ {w w1 : World} {g : Nat} {row : Option Nat} (h : KeepBut w w1 g row) (j : Nat) (u : Value) : KeepBut w (w1.setCell { block := g, off := j } u) g row := KeepBut.set_ h j u
theorem kn_ {w W : World} {g : Nat} {row : Option Nat} (h : KeepBut w W g row) (m : Nat) : KeepBut w (W.drewN m) g row := keep_drewN h m
theorem kd_ {w W : World} {g : Nat} {row : Option Nat} (h : KeepBut w W g row) : KeepBut w W.drew g row := keep_drew h
theorem ka_ {w W : World} {g : Nat} (h : KeepBut w W g none) (o : Obj) : KeepBut w (W.alloc o) g none := keep_alloc h o
theorem gn_ {w : World} {g : Nat} {o : Obj} (h : w.heap[g]? = some o) (n : Nat) : (w.drewN n).heap[g]? = some o := blk_drewN h n
theorem gd_ {w : World} {g : Nat} {o : Obj} (h : w.heap[g]? = some o) : w.drew.heap[g]? = some o := blk_drew h
theorem ga_ {w : World} {g : Nat} {o : Obj} (h : w.heap[g]? = some o) (o' : Obj) : (w.alloc o').heap[g]? = some o := blk_alloc h o'
section
variable {α : Type} {d : Kd α} {e : Nat} {w : World} {base : Nat} {ok : Nat → Prop} {v : Value} {xs : List α}
theorem Ra_ (h : d.R e w base ok v xs) (o : Obj) : d.R e (w.alloc o) base ok v xs := Kd.R_alloc h o
theorem Rn_ (h : d.R e w base ok v xs) (m : Nat) : d.R e (w.drewN m) base ok v xs := Kd.R_drewN h m
theorem Rd_ (h : d.R e w base ok v xs) : d.R e w.drew base ok v xs := Kd.R_drew h
theorem Qa_ (h : d.Q e w base ok v xs) (o : Obj) : d.Q e (w.alloc o) base ok v xs := Kd.Q_alloc h o
theorem Qn_ (h : d.Q e w base ok v xs) (m : Nat) : d.Q e (w.drewN m) base ok v xs := Kd.Q_drewN h m
theorem Qd_ (h : d.Q e w base ok v xs) : d.Q e w.drew base ok v xs := Kd.Q_drew h
end
end Go.Proofs.YtcobnlilmihjfaaW.PrintWords

/- The steps of a region that draws its order, in few words: what is alike from step to step is found by the step itself. -/
namespace Go.Proofs.YtcobnlilmihjfaaW.PrintMore
open Go.RowKit Go.Proofs.YtcobnlilmihjfaaW.PrintWords Go.Proofs.YtcobnlilmihjfaaW.PrintLast
set_option linter.unusedVariables false
section
variable {P : Program} {ops : Array Oper} {Q : Exit → Act → World → Prop} {md : Region.Mode} {S : World → Prop} {ds : List Nat} {T : Bool × List (List Nat × List Nat)} {B : List Nat} {fuel : Nat} {l : Array Bool} {a a' : Act} {w : World} {oi : Oper} {v : Value}
theorem on_ (i : Nat) (N : Option Tmp) (h : wpAnyLast P md ops Q S ds fuel (l.setIfInBounds i true) a' w) (hi : ops[i]? = some oi := by rfl) (hN : oi.dst = N := by rfl) (hT : rtab md ops = T := by exact Aside0.out (by assumption)) (hk : anyT T l.toList (l.setIfInBounds i true).toList i = true := by kernel_rfl)
  (hQ : ∀ c a w, Q (.panic c) (a.put oi.dst v) w → Q (.panic c) a w := by exact fun _ _ _ h => h) (hw : Region.wanted oi (yielded ops a.tmps) = true := by rfl) (hy : ∀ w', (execOp a.eval oi).run P w' = .ok (.value v) w' := by intro w'; go_simp; with_reducible rfl)
  (ha : a.put N v = a' := by simp only [Act.put, sia_, sz_, ss_, i64_w, i32_w]; rfl) : wpAnyLast P md ops Q S ds (fuel + 1) l a w :=
 pure_ (l.setIfInBounds i true) hi hN (any_of hT hk) hQ (Or.inl ⟨hw, hy⟩) ha h
theorem of_ (i : Nat) (N : Option Tmp) (h : wpAnyLast P md ops Q S ds fuel (l.setIfInBounds i true) a' w) (hi : ops[i]? = some oi := by rfl) (hN : oi.dst = N := by rfl) (hT : rtab md ops = T := by exact Aside0.out (by assumption)) (hk : anyT T l.toList (l.setIfInBounds i true).toList i = true := by kernel_rfl)
  (hQ : ∀ c a w, Q (.panic c) (a.put oi.dst undef) w → Q (.panic c) a w := by exact fun _ _ _ h => h) (hw : Region.wanted oi (yielded ops a.tmps) = false := by rfl)
  (ha : a.put N undef = a' := by simp only [Act.put, sia_, sz_, ss_, i64_w, i32_w]; rfl) : wpAnyLast P md ops Q S ds (fuel + 1) l a w :=
 pure_ (l.setIfInBounds i true) hi hN (any_of hT hk) hQ (Or.inr ⟨hw, rfl⟩) ha h
theorem tk_ (i : Nat) (N : Option Tmp) (h : wpAnyLast P md ops Q S ds fuel (l.setIfInBounds i true) a' w) (hi : ops[i]? = some oi := by rfl) (hN : oi.dst = N := by rfl) (hT : rtab md ops = T := by exact Aside0.out (by assumption)) (hB : waitsOk T.2 B = true := by exact Aside0.out (by assumption)) (hk : takeW T B ds l.toList (l.setIfInBounds i true).toList i = true := by kernel_rfl)
  (hQ : ∀ c a w, Q (.panic c) (a.put oi.dst v) w → Q (.panic c) a w := by exact fun _ _ _ h => h) (hw : Region.wanted oi (yielded ops a.tmps) = true := by rfl) (hS : S w := by assumption)
  (hy : ∀ w', S w' → (execOp a.eval oi).run P w' = .ok (.value v) w' := by
   intro w' hs_
   first
    | (rcases hs_ with ⟨s0, s1, s2, s3, s4, s5, s6, s7, s8, s9, s10, s11⟩; go_simp; with_reducible rfl)
    | (rcases hs_ with ⟨s0, s1, s2, s3, s4, s5, s6, s7, s8, s9, s10⟩; go_simp; with_reducible rfl)
    | (rcases hs_ with ⟨s0, s1, s2, s3, s4, s5, s6, s7, s8, s9⟩; go_simp; with_reducible rfl)
    | (rcases hs_ with ⟨s0, s1, s2, s3, s4, s5, s6, s7, s8⟩; go_simp; with_reducible rfl)
    | (rcases hs_ with ⟨s0, s1, s2, s3, s4, s5, s6, s7⟩; go_simp; with_reducible rfl)
    | (rcases hs_ with ⟨s0, s1, s2, s3, s4, s5, s6⟩; go_simp; with_reducible rfl)
    | (rcases hs_ with ⟨s0, s1, s2, s3, s4, s5⟩; go_simp; with_reducible rfl)
    | (rcases hs_ with ⟨s0, s1, s2, s3, s4⟩; go_simp; with_reducible rfl)
    | (rcases hs_ with ⟨s0, s1, s2, s3⟩; go_simp; with_reducible rfl)
    | (rcases hs_ with ⟨s0, s1, s2⟩; go_simp; with_reducible rfl)
    | (rcases hs_ with ⟨s0, s1⟩; go_simp; with_reducible rfl)
    | (go_simp; with_reducible rfl))
  (ha : a.put N v = a' := by simp only [Act.put, sia_, sz_, ss_, i64_w, i32_w]; rfl) : wpAnyLast P md ops Q S ds (fuel + 1) l a w :=
 take_ (l.setIfInBounds i true) hi hN (take_ofW hT hB hk) hQ (Or.inl ⟨hw, hy⟩) hS ha h
theorem o1_ (i : Nat) (N : Option Tmp) (h : ∀ K : Act → World → Prop, Shut (∀ a' w', S w' → (S w' → wpAnyLast P md ops Q S ds fuel (l.setIfInBounds i true) a' w') → K a' w') → if Region.wanted oi (yielded ops a.tmps) = true then Oper.wp P oi a w K Q else K (a.put N undef) w)
  (hi : ops[i]? = some oi := by rfl) (hN : oi.dst = N := by rfl) (hT : rtab md ops = T := by exact Aside0.out (by assumption)) (hk : (readyT T.2 l.toList == [i] && l.toList.set i true == (l.setIfInBounds i true).toList) = true := by kernel_rfl) (hd : i ∉ ds := by decide) : wpAnyLast P md ops Q S ds (fuel + 1) l a w :=
 one_ (l.setIfInBounds i true) hi hN (one_of hT hk) hd h
theorem ol_ (i : Nat) (N : Option Tmp) (h : ∀ K : Act → World → Prop, Shut (∀ a' w', wpAnyLast P md ops Q S ds fuel (l.setIfInBounds i true) a' w' → K a' w') → if Region.wanted oi (yielded ops a.tmps) = true then Oper.wp P oi a w K Q else K (a.put N undef) w)
  (hi : ops[i]? = some oi := by rfl) (hN : oi.dst = N := by rfl) (hT : rtab md ops = T := by exact Aside0.out (by assumption)) (hk : (readyT T.2 l.toList == [i] && l.toList.set i true == (l.setIfInBounds i true).toList) = true := by kernel_rfl) (hd : i ∈ ds := by decide) : wpAnyLast P md ops Q S ds (fuel + 1) l a w :=
 last_ (l.setIfInBounds i true) hi hN (one_of hT hk) hd h
theorem o2_ (i j : Nat) (Ni Nj : Option Tmp) {oj : Oper} (h1 : ∀ K : Act → World → Prop, Shut (∀ a' w', S w' → (S w' → wpAnyLast P md ops Q S ds fuel (l.setIfInBounds i true) a' w') → K a' w') → if Region.wanted oi (yielded ops a.tmps) = true then Oper.wp P oi a w K Q else K (a.put Ni undef) w)
  (h2 : ∀ K : Act → World → Prop, Shut (∀ a' w', S w' → (S w' → wpAnyLast P md ops Q S ds fuel (l.setIfInBounds j true) a' w') → K a' w') → if Region.wanted oj (yielded ops a.tmps) = true then Oper.wp P oj a w K Q else K (a.put Nj undef) w)
  (hi : ops[i]? = some oi := by rfl) (hj : ops[j]? = some oj := by rfl) (hNi : oi.dst = Ni := by rfl) (hNj : oj.dst = Nj := by rfl) (hT : rtab md ops = T := by exact Aside0.out (by assumption))
  (hk : (readyT T.2 l.toList == [i, j] && l.toList.set i true == (l.setIfInBounds i true).toList && l.toList.set j true == (l.setIfInBounds j true).toList) = true := by kernel_rfl) (hdi : i ∉ ds := by decide) (hdj : j ∉ ds := by decide) : wpAnyLast P md ops Q S ds (fuel + 1) l a w :=
 two_ (l.setIfInBounds i true) (l.setIfInBounds j true) hi hj hNi hNj (two_of hT hk) hdi hdj h1 h2
theorem nm_ (N : Option Tmp) {l : Array Bool} (h : wpAnyLast P md ops Q S ds fuel l a' w) (ha : a.put N v = a' := by simp only [Act.put, sia_, sz_, ss_, i64_w, i32_w]; rfl) : wpAnyLast P md ops Q S ds fuel l (a.put N v) w := norm_ ha h
theorem dn_ {n : Nat} (h : Q .normal a w) (hT : rtab md ops = T := by exact Aside0.out (by assumption)) (hk : (readyT T.2 l.toList == []) = true := by kernel_rfl) : wpAnyLast P md ops Q S ds n l a w := done_ (done_of hT hk) h
end
end Go.Proofs.YtcobnlilmihjfaaW.PrintMore

/- Short words for texts that are made shorter (tools/tight.py): what is alike from place to place is found by the word itself. -/
namespace Go.Proofs.YtcobnlilmihjfaaW.PrintMore
open Go.RowKit Go.Proofs.YtcobnlilmihjfaaW.PrintWords Go.Proofs.YtcobnlilmihjfaaW.PrintLast
set_option linter.unusedVariables false
theorem bw_ {b : Nat} {w0 w : World} (h : Below b w0 w := by repeat (first | (with_reducible first | exact Aside0.out (by assumption) | apply ba_ | apply bn_ | apply bd_) | exact Aside0.out (by assumption))) : Below b w0 w := h
theorem bx_ {b : Nat} {w0 w : World} (h : Below b w0 w := by repeat (first | (with_reducible first | exact Aside0.out (by assumption) | apply ba_ | apply bn_ | apply bd_ | refine below_set ?_ (Aside0.out (by assumption))) | exact Aside0.out (by assumption))) : Below b w0 w := h
theorem er_ {p : Prop} (h : p := by first | rfl | (simp [errW_none, errW_some] <;> rfl) | (simp [*, errW_none, errW_some] <;> rfl)) : p := h
theorem as_ {p : Prop} (h : p := by first | (with_reducible assumption) | assumption) : p := h
theorem bk_ {p q : Prop} (h : Aside0 p) (f : p → q := by intro hb_; (with_reducible repeat (first | apply gn_ | apply gd_ | apply ga_)); exact hb_) : q := f h.out
theorem hk_ {w W : World} {g : Nat} {row : Option Nat} (h : KeepBut w W g row := by repeat (first | (with_reducible first | exact Aside0.out (by assumption) | apply ks_ | apply kn_ | apply kd_ | apply ka_) | exact Aside0.out (by assumption))) : KeepBut w W g row := h
theorem kc_ {p q : Prop} (h : p) (f : p → q := by intro hc_; repeat (first | exact hc_ | (with_reducible refine Kd.C_alloc ?_ _) | (with_reducible refine Kd.C_drewN ?_ _) | (with_reducible refine Kd.C_drew ?_))) : q := f h
section
variable {P : Program} {ops : Array Oper} {Q : Exit → Act → World → Prop}
theorem be_ {rest : List Oper} {o : Oper} {a : Act} {W : World} {N : Tmp} {cs : Array Value} {t : TypeId}
  (h : ∀ g, g = W.heap.size → ∀ w1, w1.heap[g]? = some (.cells cs t (0, 0)) → Below W.heap.size W w1 → wpList P ops Q rest (a.put o.dst (.pointer (some ⟨g, 0, none⟩))) w1) (hd : o.dst = some N := by exact rfl) (hg : o.guard = none := by exact rfl)
  (hr : (execOp a.eval o).run P W = .ok (.value (.pointer (some ⟨W.heap.size, 0, none⟩))) (W.alloc (.cells cs t (0, 0))) := by first | (go_simp; done) | (go_simp; rfl)) : wpList P ops Q (o :: rest) a W := box_event hg hd hr h
theorem gs_ {oi : Oper} {N : Option Tmp} {a : Act} {w : World} {K : Act → World → Prop} {f : FuncId} {fn : Func} {xs_ : Array Operand} {ts : Array TypeId} (hf : P.funcs[f]? = some fn) (args : Array Value) (h : Calls P f args w fun e w' => ∃ v, e = .returned v ∧ K (a.put N v) w')
  (hname : (fn.name == "runtime.NumGoroutine") = false := by kernel_rfl) (hb : fn.body.isSome = true := by exact rfl) (hw : Region.wanted oi (yielded ops a.tmps) = true := by rfl) (hN : oi.dst = N := by exact rfl) (hop : oi.op = .call { callee := .value (.func f), args := xs_, argTypes := ts } := by exact rfl)
  (hargs : xs_.map a.eval = args := by (try simp only [List.map_toArray, List.map_cons, List.map_nil]); first | done | rfl | (simp only [List.length_drop, List.length_take]; rfl)) : if Region.wanted oi (yielded ops a.tmps) = true then Oper.wp P oi a w K Q else K (a.put N undef) w :=
 goes_ hf hname hb args hw hN hop hargs h
theorem gl_ {rest : List Oper} {oi : Oper} {a : Act} {w : World} (N : Option Tmp) {f : FuncId} {fn : Func} {xs_ : Array Operand} {ts : Array TypeId} (hf : P.funcs[f]? = some fn) (args : Array Value) (h : Calls P f args w fun e w' => ∃ v, e = .returned v ∧ wpList P ops Q rest (a.put N v) w')
  (hd : oi.dst = N := by exact rfl) (hg : oi.guard = none := by exact rfl) (hname : (fn.name == "runtime.NumGoroutine") = false := by kernel_rfl) (hb : fn.body.isSome = true := by exact rfl) (hop : oi.op = .call { callee := .value (.func f), args := xs_, argTypes := ts } := by exact rfl)
  (hargs : xs_.map a.eval = args := by (try simp only [List.map_toArray, List.map_cons, List.map_nil]); first | done | rfl | (simp only [List.length_drop, List.length_take]; rfl)) : wpList P ops Q (oi :: rest) a w :=
 goesL_ N hd hg hf hname hb args hop hargs h
end
end Go.Proofs.YtcobnlilmihjfaaW.PrintMore

/- Frames by types: below 'base' nothing turns, and from there on only blocks of the listed types. For functions that write through a pointer. -/
namespace Go.Proofs.YtcobnlilmihjfaaW.PrintMore
open Go.RowKit Go.Proofs.YtcobnlilmihjfaaW.PrintWords
structure Fr (base : Nat) (ts : List Nat) (w w' : World) : Prop where
 os : w'.os = w.os
 tape : w'.tape = w.tape
 output : w'.output = w.output
 size : w.heap.size ≤ w'.heap.size
 keep : ∀ k, k < w.heap.size → (k < base ∨ ∃ cells t fr, w.heap[k]? = some (.cells cells t fr) ∧ t ∉ ts) → w'.heap[k]? = w.heap[k]?
namespace Fr
variable {base : Nat} {ts : List Nat} {w w1 w2 : World}
theorem refl (base : Nat) (ts : List Nat) (w : World) : Fr base ts w w := ⟨rfl, rfl, rfl, Nat.le_refl _, fun _ _ _ => rfl⟩
theorem trans (h : Fr base ts w w1) (k : Fr base ts w1 w2) : Fr base ts w w2 :=
 ⟨k.os.trans h.os, k.tape.trans h.tape, k.output.trans h.output, Nat.le_trans h.size k.size, fun i hi hk => by
  have e := h.keep i hi hk
  refine (k.keep i (Nat.lt_of_lt_of_le hi h.size) ?_).trans e
  rcases hk with hk | ⟨c, t, fr, hc, ht⟩
  ·exact .inl hk
  ·exact .inr ⟨c, t, fr, e.trans hc, ht⟩⟩
theorem of_below (h : Below w.heap.size w w1) : Fr base ts w w1 := ⟨h.os, h.tape, h.output, h.size, fun i hi _ => h.block i hi⟩
theorem alloc (h : Fr base ts w w1) (o : Obj) : Fr base ts w (w1.alloc o) := h.trans (of_below (below_alloc (Below.refl _ _) o))
theorem drew (h : Fr base ts w w1) : Fr base ts w w1.drew := ⟨h.os, h.tape, h.output, h.size, h.keep⟩
theorem drewN (h : Fr base ts w w1) (n : Nat) : Fr base ts w (w1.drewN n) := ⟨h.os, h.tape, h.output, h.size, h.keep⟩
theorem set (h : Fr base ts w w1) {p : Addr} {cells : Array Value} {t : Nat} {fr : Nat × Nat} (hp : w1.heap[p.block]? = some (.cells cells t fr)) (ht : t ∈ ts) (hb : base ≤ p.block) (u : Value) : Fr base ts w (w1.setCell p u) :=
 h.trans ⟨rfl, rfl, rfl, by simp [World.setCell], fun i hi hk => Below.heap_setCell _ _ _ _ (by
  rintro rfl
  rcases hk with hk | ⟨c, t', fr', hc, ht'⟩
  ·omega
  ·rw [hp] at hc
   injection hc with hc
   injection hc with _ hc _
   exact ht' (hc ▸ ht))⟩
theorem grown (h : Fr base ts w w1) {row : Option Nat} (hg : w1.grownBy w2 row) (hr : ∀ k, row = some k → base ≤ k ∧ ∃ cells t fr, w1.heap[k]? = some (.cells cells t fr) ∧ t ∈ ts) : Fr base ts w w2 :=
 h.trans ⟨hg.os, hg.tape, hg.output, hg.size, fun i hi hk => hg.block i hi (fun e => by
  obtain ⟨hb, c, t, fr, hc, ht⟩ := hr i e.symm
  rcases hk with hk | ⟨c', t', fr', hc', ht'⟩
  ·omega
  ·rw [hc] at hc'
   injection hc' with hc'
   injection hc' with _ hc' _
   exact ht' (hc' ▸ ht))⟩
theorem below (h : Fr base ts w w1) {w0 : World} (hb : Below base w0 w) (hs : base ≤ w.heap.size) : Below base w0 w1 :=
 ⟨h.os.trans hb.os, h.tape.trans hb.tape, h.output.trans hb.output, Nat.le_trans hb.size h.size, fun i hi => (h.keep i (by omega) (.inl hi)).trans (hb.block i hi)⟩
theorem blk (h : Fr base ts w w1) {g : Nat} {cells : Array Value} {t : Nat} {fr : Nat × Nat} (hg : w.heap[g]? = some (.cells cells t fr)) (ht : t ∉ ts) : w1.heap[g]? = some (.cells cells t fr) :=
 (h.keep g (blk_lt hg) (.inr ⟨_, _, _, hg, ht⟩)).trans hg
theorem mono {ts' : List Nat} (h : Fr base ts w w1) (ht : ∀ t, t ∈ ts → t ∈ ts') : Fr base ts' w w1 :=
 ⟨h.os, h.tape, h.output, h.size, fun i hi hk => h.keep i hi (by
  rcases hk with hk | ⟨c, t, fr, hc, hn⟩
  ·exact .inl hk
  ·exact .inr ⟨c, t, fr, hc, fun hm => hn (ht t hm)⟩)⟩
end Fr
end Go.Proofs.YtcobnlilmihjfaaW.PrintMore

/- Separate resources of a world: blocks and rows of the call's own, whose footprints don't meet. One fact in the place of many. -/
namespace Go.Proofs.YtcobnlilmihjfaaW.PrintMore
open Go.RowKit Go.Proofs.YtcobnlilmihjfaaW.PrintWords
set_option linter.unusedVariables false
structure Res where
 P : (Nat → Prop) → World → Prop
 mono : ∀ {fp fp' : Nat → Prop} {w : World}, (∀ k, fp k → fp' k) → P fp w → P fp' w
 move : ∀ {fp : Nat → Prop} {w w' : World}, (∀ k, fp k → k < w.heap.size → w'.heap[k]? = w.heap[k]?) → P fp w → P (fun k => fp k ∧ k < w.heap.size) w'
structure Sp (w0 : World) (rs : List Res) (w : World) : Prop where
 below : Below w0.heap.size w0 w
 foot : ∃ F : Nat → Nat → Prop, (∀ (i : Nat) (r : Res), rs[i]? = some r → r.P (F i) w) ∧ (∀ i j k, i ≠ j → F i k → ¬ F j k) ∧ (∀ i k, F i k → w0.heap.size ≤ k ∧ k < w.heap.size)
structure Turns (fp : Nat → Prop) (w w' : World) : Prop where
 os : w'.os = w.os
 tape : w'.tape = w.tape
 output : w'.output = w.output
 size : w.heap.size ≤ w'.heap.size
 block : ∀ k, k < w.heap.size → ¬ fp k → w'.heap[k]? = w.heap[k]?
theorem Turns.of_below {fp : Nat → Prop} {w w' : World} (h : Below w.heap.size w w') : Turns fp w w' := ⟨h.os, h.tape, h.output, h.size, fun k hk _ => h.block k hk⟩
theorem Turns.of_grown {fp : Nat → Prop} {w w' : World} {row : Option Nat} (h : w.grownBy w' row) (hr : ∀ k, row = some k → fp k) : Turns fp w w' :=
 ⟨h.os, h.tape, h.output, h.size, fun k hk hn => h.block k hk (fun e => hn (hr k e.symm))⟩
theorem Turns.set {fp : Nat → Prop} {w : World} {p : Addr} (hp : fp p.block) (u : Value) : Turns fp w (w.setCell p u) :=
 ⟨rfl, rfl, rfl, by simp [World.setCell], fun k hk hn => Below.heap_setCell w p u k (fun e => hn (e ▸ hp))⟩
theorem Turns.below {fp : Nat → Prop} {w0 w w' : World} (h : Turns fp w w') (hb : Below w0.heap.size w0 w) (hf : ∀ k, fp k → w0.heap.size ≤ k) : Below w0.heap.size w0 w' :=
 ⟨h.os.trans hb.os, h.tape.trans hb.tape, h.output.trans hb.output, Nat.le_trans hb.size h.size, fun k hk => (h.block k (Nat.lt_of_lt_of_le hk hb.size) (fun hp => Nat.lt_irrefl _ (Nat.lt_of_lt_of_le hk (hf k hp)))).trans (hb.block k hk)⟩
namespace Sp
variable {w0 w w' : World} {rs rs' : List Res} {r r' : Res} {i : Nat}
theorem start (w : World) : Sp w [] w := ⟨Below.refl _ _, fun _ _ => False, fun i r h => by simp at h, fun _ _ _ _ h => h.elim, fun _ _ h => h.elim⟩
theorem get (h : Sp w0 rs w) (hi : rs[i]? = some r) : ∃ fp : Nat → Prop, r.P fp w ∧ ∀ k, fp k → w0.heap.size ≤ k ∧ k < w.heap.size := by
 obtain ⟨F, h1, _, h3⟩ := h.foot
 exact ⟨F i, h1 i r hi, h3 i⟩
theorem upd (h : Sp w0 rs w) (hi : rs[i]? = some r) (hw : ∀ fp : Nat → Prop, r.P fp w → (∀ k, fp k → w0.heap.size ≤ k ∧ k < w.heap.size) → Turns fp w w' ∧ r'.P (fun k => fp k ∨ (w.heap.size ≤ k ∧ k < w'.heap.size)) w') : Sp w0 (rs.set i r') w' := by
 obtain ⟨F, h1, h2, h3⟩ := h.foot
 obtain ⟨ht, hr⟩ := hw (F i) (h1 i r hi) (h3 i)
 refine ⟨ht.below h.below (fun k hk => (h3 i k hk).1), fun j => if j = i then (fun k => F i k ∨ (w.heap.size ≤ k ∧ k < w'.heap.size)) else F j, fun j s hj => ?_, fun j l k hjl => ?_, fun j k => ?_⟩
 ·by_cases e : j = i
  ·subst e
   have hl : j < rs.length := (List.getElem?_eq_some_iff.1 hi).1
   rw [List.getElem?_set_self hl] at hj
   injection hj with hj
   subst hj
   simpa using hr
  ·rw [List.getElem?_set_ne (Ne.symm e)] at hj
   simp only [if_neg e]
   exact s.mono (fun k hk => hk.1) (s.move (fun k hk hlt => ht.block k hlt (fun hik => h2 i j k (Ne.symm e) hik hk)) (h1 j s hj))
 ·by_cases e : j = i
  ·by_cases e' : l = i
   ·exact absurd (e.trans e'.symm) hjl
   ·simp only [if_pos e, if_neg e']
    rintro (hk | hk) hl
    ·exact h2 i l k (Ne.symm e') hk hl
    ·have := (h3 l k hl).2; omega
  ·by_cases e' : l = i
   ·simp only [if_neg e, if_pos e']
    rintro hj (hk | hk)
    ·exact h2 j i k e hj hk
    ·have := (h3 j k hj).2; omega
   ·simp only [if_neg e, if_neg e']
    exact h2 j l k hjl
 ·by_cases e : j = i
  ·simp only [if_pos e]
   rintro (hk | hk)
   ·exact ⟨(h3 i k hk).1, Nat.lt_of_lt_of_le (h3 i k hk).2 ht.size⟩
   ·exact ⟨Nat.le_trans h.below.size hk.1, hk.2⟩
  ·simp only [if_neg e]
   exact fun hk => ⟨(h3 j k hk).1, Nat.lt_of_lt_of_le (h3 j k hk).2 ht.size⟩
theorem push (h : Sp w0 rs w) (hb : Below w.heap.size w w') (hr : r.P (fun k => w.heap.size ≤ k ∧ k < w'.heap.size) w') : Sp w0 (r :: rs) w' := by
 obtain ⟨F, h1, h2, h3⟩ := h.foot
 have hb0 : Below w0.heap.size w0 w' := (Turns.of_below (fp := fun _ => False) hb).below h.below (fun _ hk => hk.elim)
 refine ⟨hb0, fun j => match j with | 0 => (fun k => w.heap.size ≤ k ∧ k < w'.heap.size) | j + 1 => F j, fun j s hj => ?_, fun j l k hjl => ?_, fun j k => ?_⟩
 ·cases j with
  | zero =>
   simp only [List.getElem?_cons_zero] at hj
   injection hj with hj
   subst hj
   exact hr
  | succ j =>
   simp only [List.getElem?_cons_succ] at hj
   exact s.mono (fun k hk => hk.1) (s.move (fun k hk hlt => hb.block k hlt) (h1 j s hj))
 ·cases j with
  | zero =>
   cases l with
   | zero => exact absurd rfl hjl
   | succ l => intro hk hl; have := (h3 l k hl).2; omega
  | succ j =>
   cases l with
   | zero => intro hj hk; have := (h3 j k hj).2; omega
   | succ l => exact h2 j l k (fun e => hjl (by rw [e]))
 ·cases j with
  | zero => exact fun hk => ⟨Nat.le_trans h.below.size hk.1, hk.2⟩
  | succ j => exact fun hk => ⟨(h3 j k hk).1, Nat.lt_of_lt_of_le (h3 j k hk).2 hb.size⟩
theorem far (h : Sp w0 rs w) (hb : Below w.heap.size w w') : Sp w0 rs w' := by
 obtain ⟨F, h1, h2, h3⟩ := h.foot
 exact ⟨(Turns.of_below (fp := fun _ => False) hb).below h.below (fun _ hk => hk.elim), F, fun i r hi => r.mono (fun k hk => hk.1) (r.move (fun k _ hlt => hb.block k hlt) (h1 i r hi)), h2, fun i k hk => ⟨(h3 i k hk).1, Nat.lt_of_lt_of_le (h3 i k hk).2 hb.size⟩⟩
theorem drew (h : Sp w0 rs w) : Sp w0 rs w.drew := h.far (below_drew (Below.refl _ _))
theorem drewN (h : Sp w0 rs w) (m : Nat) : Sp w0 rs (w.drewN m) := h.far (pw_below_drewN (Below.refl _ _) m)
theorem alloc (h : Sp w0 rs w) (o : Obj) : Sp w0 rs (w.alloc o) := h.far (below_alloc (Below.refl _ _) o)
theorem pick (h : Sp w0 rs w) (f : Nat → Nat) (hf : ∀ i j, f i = f j → i = j) (he : ∀ i r, rs'[i]? = some r → rs[f i]? = some r) : Sp w0 rs' w := by
 obtain ⟨F, h1, h2, h3⟩ := h.foot
 exact ⟨h.below, fun i => F (f i), fun i r hi => h1 (f i) r (he i r hi), fun i j k hij => h2 (f i) (f j) k (fun e => hij (hf i j e)), fun i => h3 (f i)⟩
theorem tail (h : Sp w0 (r :: rs) w) : Sp w0 rs w := h.pick Nat.succ (fun _ _ e => Nat.succ.inj e) (fun i s hi => by simpa using hi)
theorem swap {a b : Res} (h : Sp w0 (a :: b :: rs) w) : Sp w0 (b :: a :: rs) w :=
 h.pick (fun i => if i = 0 then 1 else if i = 1 then 0 else i) (fun i j e => by split at e <;> split at e <;> (try split at e) <;> (try split at e) <;> omega) (fun i s hi => by
  match i, hi with
  | 0, hi => simpa using hi
  | 1, hi => simpa using hi
  | i + 2, hi => simpa using hi)
theorem front (h : Sp w0 rs w) (hi : rs[i]? = some r) : Sp w0 (r :: rs.eraseIdx i) w :=
 h.pick (fun j => if j = 0 then i else if j - 1 < i then j - 1 else j) (fun a b e => by (repeat' split at e) <;> omega) (fun j s hj => by
  cases j with
  | zero => simp only [List.getElem?_cons_zero] at hj; injection hj with hj; subst hj; simpa using hi
  | succ j =>
   simp only [List.getElem?_cons_succ, List.getElem?_eraseIdx] at hj
   simp only [Nat.add_sub_cancel, Nat.succ_ne_zero, if_false]
   by_cases e : j < i
   ·rw [if_pos e] at hj ⊢; exact hj
   ·rw [if_neg e] at hj ⊢; exact hj)
theorem unfront (hi : i < rs.length) (h : Sp w0 (r :: rs.eraseIdx i) w) : Sp w0 (rs.set i r) w :=
 h.pick (fun j => if j = i then 0 else if j < i then j + 1 else j) (fun a b e => by (repeat' split at e) <;> omega) (fun j s hj => by
  by_cases e : j = i
  ·subst e
   rw [List.getElem?_set_self hi] at hj
   simpa using hj
  ·rw [List.getElem?_set_ne (Ne.symm e)] at hj
   simp only [if_neg e]
   by_cases c : j < i
   ·rw [if_pos c, List.getElem?_cons_succ, List.getElem?_eraseIdx, if_pos c]; exact hj
   ·rw [if_neg c]
    obtain ⟨m, rfl⟩ : ∃ m, j = m + 1 := ⟨j - 1, by omega⟩
    rw [List.getElem?_cons_succ, List.getElem?_eraseIdx, if_neg (by omega)]; exact hj)
theorem out (h : Sp w0 rs w) (i : Nat) : Sp w0 (rs.eraseIdx i) w :=
 h.pick (fun j => if j < i then j else j + 1) (fun a b e => by (repeat' split at e) <;> omega) (fun j s hj => by
  rw [List.getElem?_eraseIdx] at hj
  split at hj
  ·rename_i c; rw [if_pos c]; exact hj
  ·rename_i c; rw [if_neg c]; exact hj)
theorem weak (h : Sp w0 rs w) (hi : rs[i]? = some r) (hr : ∀ fp : Nat → Prop, r.P fp w → r'.P fp w) : Sp w0 (rs.set i r') w :=
 h.upd hi (fun fp hp hb => ⟨Turns.of_below (Below.refl _ _), r'.mono (fun k hk => .inl hk) (hr fp hp)⟩)
end Sp
def Res.blk (g : Nat) (cs : Array Value) (t : Nat) : Res where
 P fp w := fp g ∧ w.heap[g]? = some (.cells cs t (0, 0))
 mono h p := ⟨h g p.1, p.2⟩
 move h p := ⟨⟨p.1, blk_lt p.2⟩, (h g p.1 (blk_lt p.2)).trans p.2⟩
def Res.row {α : Type} (d : Kd α) (e base : Nat) (v : Value) (xs : List α) : Res where
 P fp w := d.R e w base fp v xs
 mono h p := Kd.R_mono p h
 move h p := Kd.R_mono (Kd.R_move (Kd.R_bound p) (fun k hk => h k hk.1 hk.2.2.1)) (fun k hk => ⟨hk.1, hk.2.2.1⟩)
def Res.ex {α : Type} (R : α → Res) : Res where
 P fp w := ∃ a, (R a).P fp w
 mono h p := p.imp fun a q => (R a).mono h q
 move h p := p.imp fun a q => (R a).move h q
def Res.pure (c : Prop) : Res where
 P _ _ := c
 mono _ p := p
 move _ p := p
def Res.star (a b : Res) : Res where
 P fp w := ∃ f g : Nat → Prop, a.P f w ∧ b.P g w ∧ (∀ k, f k → ¬ g k) ∧ ∀ k, f k ∨ g k → fp k
 mono h p := by
  obtain ⟨f, g, h1, h2, h3, h4⟩ := p
  exact ⟨f, g, h1, h2, h3, fun k hk => h k (h4 k hk)⟩
 move := by
  intro fp w w' h p
  obtain ⟨f, g, h1, h2, h3, h4⟩ := p
  exact ⟨_, _, a.move (fun k hk hlt => h k (h4 k (.inl hk)) hlt) h1, b.move (fun k hk hlt => h k (h4 k (.inr hk)) hlt) h2, fun k hk hg => h3 k hk.1 hg.1, fun k hk => ⟨h4 k (hk.imp And.left And.left), hk.elim And.right And.right⟩⟩
namespace Sp
variable {w0 w w' : World} {rs rs' : List Res} {r r' : Res} {i : Nat}
theorem ex_close {α : Type} {R : α → Res} (a : α) (h : Sp w0 rs w) (hi : rs[i]? = some (R a)) : Sp w0 (rs.set i (Res.ex R)) w := h.weak hi (fun fp hp => ⟨a, hp⟩)
theorem star_close {a b : Res} (h : Sp w0 (a :: b :: rs) w) : Sp w0 (Res.star a b :: rs) w := by
 obtain ⟨F, h1, h2, h3⟩ := h.foot
 refine ⟨h.below, fun j => match j with | 0 => (fun k => F 0 k ∨ F 1 k) | j + 1 => F (j + 2), fun j s hj => ?_, fun j l k hjl => ?_, fun j k => ?_⟩
 ·match j, hj with
  | 0, hj => simp at hj; subst hj; exact ⟨F 0, F 1, h1 0 a rfl, h1 1 b rfl, fun k => h2 0 1 k (by omega), fun k hk => hk⟩
  | j + 1, hj => exact h1 (j + 2) s (by simpa using hj)
 ·match j, l with
  | 0, 0 => exact absurd rfl hjl
  | 0, l + 1 => exact fun hk hl => hk.elim (fun hk => h2 0 (l + 2) k (by omega) hk hl) (fun hk => h2 1 (l + 2) k (by omega) hk hl)
  | j + 1, 0 => exact fun hk hl => hl.elim (fun hl => h2 (j + 2) 0 k (by omega) hk hl) (fun hl => h2 (j + 2) 1 k (by omega) hk hl)
  | j + 1, l + 1 => exact h2 (j + 2) (l + 2) k (by omega)
 ·match j with
  | 0 => exact fun hk => hk.elim (h3 0 k) (h3 1 k)
  | j + 1 => exact h3 (j + 2) k
theorem blk (h : Sp w0 rs w) {g : Nat} {cs : Array Value} {t : Nat} (hi : rs[i]? = some (Res.blk g cs t)) : w.heap[g]? = some (.cells cs t (0, 0)) ∧ w0.heap.size ≤ g := by
 obtain ⟨fp, hp, hb⟩ := h.get hi
 exact ⟨hp.2, (hb g hp.1).1⟩
theorem set (h : Sp w0 rs w) {g : Nat} {cs cs' : Array Value} {t : Nat} (i : Nat) (hi : rs[i]? = some (Res.blk g cs t)) (j : Nat) (u : Value) (hcs : (w.setCell ⟨g, j, none⟩ u).heap[g]? = some (.cells cs' t (0, 0))) : Sp w0 (rs.set i (Res.blk g cs' t)) (w.setCell ⟨g, j, none⟩ u) :=
 h.upd hi (fun fp hp hb => ⟨Turns.set (p := ⟨g, j, none⟩) hp.1 u, .inl hp.1, hcs⟩)
theorem box (h : Sp w0 rs w) (cs : Array Value) (t : Nat) : Sp w0 (Res.blk w.heap.size cs t :: rs) (w.alloc (.cells cs t)) :=
 h.push (below_alloc (Below.refl _ _) _) ⟨⟨Nat.le_refl _, by simp⟩, blk_new w _⟩
theorem row (h : Sp w0 rs w) {α : Type} {d : Kd α} {e : Nat} {v : Value} {xs : List α} (hi : rs[i]? = some (Res.row d e w0.heap.size v xs)) :
  ∃ fp : Nat → Prop, d.R e w w0.heap.size (fun k => fp k ∨ w.heap.size ≤ k) v xs ∧ (∀ k, fp k → w0.heap.size ≤ k ∧ k < w.heap.size) ∧
   ∀ (w1 : World) (v1 : Value) (xs1 : List α), d.R e w1 w0.heap.size (fun k => fp k ∨ w.heap.size ≤ k) v1 xs1 → w.grownBy w1 v.ownBlock → Sp w0 (rs.set i (Res.row d e w0.heap.size v1 xs1)) w1 := by
 obtain ⟨F, h1, h2, h3⟩ := h.foot
 have hR : d.R e w w0.heap.size (F i) v xs := h1 i _ hi
 refine ⟨F i, Kd.R_mono hR (fun _ hk => .inl hk), h3 i, fun w1 v1 xs1 hR1 hg => ?_⟩
 have hs : Sp w0 rs w := ⟨h.below, F, h1, h2, h3⟩
 have ht : Turns (F i) w w1 := Turns.of_grown hg (fun k hk => hR.1 k hk)
 refine ⟨ht.below h.below (fun k hk => (h3 i k hk).1), fun j => if j = i then (fun k => F i k ∨ (w.heap.size ≤ k ∧ k < w1.heap.size)) else F j, fun j s hj => ?_, fun j l k hjl => ?_, fun j k => ?_⟩
 ·by_cases e' : j = i
  ·subst e'
   rw [List.getElem?_set_self (List.getElem?_eq_some_iff.1 hi).1] at hj
   injection hj with hj
   subst hj
   simp only [if_true]
   exact Kd.R_mono (Kd.R_bound hR1) (fun k hk => hk.1.imp_right (fun h4 => ⟨h4, hk.2.2.1⟩))
  ·rw [List.getElem?_set_ne (Ne.symm e')] at hj
   simp only [if_neg e']
   exact s.mono (fun k hk => hk.1) (s.move (fun k hk hlt => ht.block k hlt (fun hik => h2 i j k (Ne.symm e') hik hk)) (h1 j s hj))
 ·by_cases e' : j = i
  ·by_cases e'' : l = i
   ·exact absurd (e'.trans e''.symm) hjl
   ·simp only [if_pos e', if_neg e'']
    rintro (hk | hk) hl
    ·exact h2 i l k (Ne.symm e'') hk hl
    ·have := (h3 l k hl).2; omega
  ·by_cases e'' : l = i
   ·simp only [if_neg e', if_pos e'']
    rintro hj (hk | hk)
    ·exact h2 j i k e' hj hk
    ·have := (h3 j k hj).2; omega
   ·simp only [if_neg e', if_neg e'']
    exact h2 j l k hjl
 ·by_cases e' : j = i
  ·simp only [if_pos e']
   rintro (hk | hk)
   ·exact ⟨(h3 i k hk).1, Nat.lt_of_lt_of_le (h3 i k hk).2 ht.size⟩
   ·exact ⟨Nat.le_trans h.below.size hk.1, hk.2⟩
  ·simp only [if_neg e']
   exact fun hk => ⟨(h3 j k hk).1, Nat.lt_of_lt_of_le (h3 j k hk).2 ht.size⟩
theorem made (h : Sp w0 rs w) {α : Type} {d : Kd α} {e : Nat} {v : Value} {xs : List α} (hb : Below w.heap.size w w') (hR : d.R e w' w0.heap.size (fun k => w.heap.size ≤ k) v xs) : Sp w0 (Res.row d e w0.heap.size v xs :: rs) w' :=
 h.push hb (Kd.R_mono (Kd.R_bound hR) (fun k hk => ⟨hk.1, hk.2.2.1⟩))
theorem made' (h : Sp w0 rs w) {α : Type} {d : Kd α} {e : Nat} {v : Value} {xs : List α} (hb : Below w.heap.size w w') (hR : d.R e w' w.heap.size (fun _ => True) v xs) : Sp w0 (Res.row d e w0.heap.size v xs :: rs) w' :=
 h.made hb (Kd.R_lower (Kd.R_mono (Kd.R_bound hR) (fun k hk => hk.2.1)) h.below.size)
theorem reads (h : Sp w0 rs w) {α : Type} {d : Kd α} {e base : Nat} {A : Option Addr} {n c : Nat} {xs : List α} (hi : rs[i]? = some (Res.row d e base (.slice A n c) xs)) : n = xs.length ∧ n ≤ c ∧ d.C w A xs.length xs := by
 obtain ⟨fp, hp, _⟩ := h.get hi
 exact Kd.R_reads' hp
theorem slice (h : Sp w0 rs w) {α : Type} {d : Kd α} {e base : Nat} {v : Value} {xs : List α} (hi : rs[i]? = some (Res.row d e base v xs)) : ∃ A c, v = .slice A xs.length c := by
 obtain ⟨fp, hp, _⟩ := h.get hi
 exact Kd.R_slice hp
theorem take (h : Sp w0 rs w) {α : Type} {d : Kd α} {e base : Nat} {A : Option Addr} {n c : Nat} {xs : List α} (hi : rs[i]? = some (Res.row d e base (.slice A n c) xs)) (m : Nat) (hm : m ≤ xs.length) : Sp w0 (rs.set i (Res.row d e base (.slice A m c) (xs.take m))) w :=
 h.weak hi (fun fp hp => Kd.R_take hp hm)
def permOk (p : List Nat) (n : Nat) : Bool := p.length == n && p.all (· < n) && decide (p.Nodup)
theorem arr {pre pre' rest : List Res} (p : List Nat) (h : Sp w0 (pre ++ rest) w) (hp : permOk p pre.length = true) (he : p.map (fun j => pre[j]?) = pre'.map some) : Sp w0 (pre' ++ rest) w := by
 unfold permOk at hp
 simp only [Bool.and_eq_true, beq_iff_eq, List.all_eq_true, decide_eq_true_eq] at hp
 obtain ⟨⟨h1, h2⟩, h3⟩ := hp
 have hl : pre'.length = pre.length := by
  have := congrArg List.length he
  simp only [List.length_map] at this
  omega
 refine h.pick (fun i => if i < pre.length then p.getD i 0 else i) (fun i j e => ?_) (fun i r hi => ?_)
 ·by_cases a : i < pre.length
  ·by_cases b : j < pre.length
   ·rw [if_pos a, if_pos b] at e
    have ha : i < p.length := by omega
    have hb : j < p.length := by omega
    simp only [List.getD_eq_getElem?_getD, List.getElem?_eq_getElem ha, List.getElem?_eq_getElem hb, Option.getD_some] at e
    exact (List.getElem_inj h3).1 e
   ·rw [if_pos a, if_neg b] at e
    have ha : i < p.length := by omega
    have := h2 _ (List.getElem_mem ha)
    simp only [List.getD_eq_getElem?_getD, List.getElem?_eq_getElem ha, Option.getD_some] at e
    omega
  ·by_cases b : j < pre.length
   ·rw [if_neg a, if_pos b] at e
    have hb : j < p.length := by omega
    have := h2 _ (List.getElem_mem hb)
    simp only [List.getD_eq_getElem?_getD, List.getElem?_eq_getElem hb, Option.getD_some] at e
    omega
   ·rw [if_neg a, if_neg b] at e
    exact e
 ·by_cases a : i < pre.length
  ·have ha : i < p.length := by omega
   have hlt := h2 _ (List.getElem_mem ha)
   rw [List.getElem?_append_left (by omega)] at hi
   simp only [if_pos a, List.getD_eq_getElem?_getD, List.getElem?_eq_getElem ha, Option.getD_some]
   rw [List.getElem?_append_left hlt]
   have := congrArg (fun l => l[i]?) he
   simp only [List.getElem?_map, List.getElem?_eq_getElem ha, hi, Option.map_some] at this
   exact Option.some.inj this
  ·rw [List.getElem?_append_right (by omega), hl] at hi
   simp only [if_neg a]
   rw [List.getElem?_append_right (by omega)]
   exact hi
end Sp
end Go.Proofs.YtcobnlilmihjfaaW.PrintMore

/- A cell of a block that is one of separate resources (tools/tight.py). -/
namespace Go.Proofs.YtcobnlilmihjfaaW.PrintMore
open Go.RowKit Go.Proofs.YtcobnlilmihjfaaW.PrintWords Go.Proofs.YtcobnlilmihjfaaW.PrintLast
theorem cl_ {w0 w : World} {rs : List Res} {g : Nat} {cs : Array Value} {t : Nat} (H : Aside0 (Sp w0 rs w)) (i j : Nat) (hi : rs[i]? = some (Res.blk g cs t)) : w.cell? ⟨g, j, none⟩ = cs[j]? := blk_cell (Sp.blk H.out hi).1 j
end Go.Proofs.YtcobnlilmihjfaaW.PrintMore

namespace Go.Proofs.Ytcobnlilmihjfaa.A
open Go.RowKit Go.Proofs.YtcobnlilmihjfaaW.PrintWords Go.Proofs.YtcobnlilmihjfaaW.PrintLast Go.Proofs.YtcobnlilmihjfaaW.PrintMore
set_option linter.unusedVariables false
set_option linter.unusedSimpArgs false
section
attribute [local go_sem] max2_int min2_int max_two min_two max_three min_three max_four min_four   -- for this text's walks alone
def errW : Option Int → Value
 | none => .nilIface
 | some c => .iface 0 (.int .i64 c)
theorem errW_none : errW none = .nilIface := rfl
theorem errW_some (c : Int) : errW (some c) = .iface 0 (.int .i64 c) := rfl
theorem info2 : (Try.prog.info? 2).map (fun i => (i.zero, i.size, i.bytes)) = some (some (.int .i64 0), 1, 8) := by kernel_rfl
theorem info35 : (Try.prog.info? 35).map (fun i => (i.zero, i.size, i.bytes)) = some (some (.slice none 0 0), 1, 24) := by kernel_rfl
theorem info94 : (Try.prog.info? 94).map (fun i => (i.zero, i.size, i.bytes)) = some (some (.agg #[(.int .i64 0), (.int .i64 0), (.int .i64 0)]), 3, 24) := by kernel_rfl
structure S94 where
 f0 : Int
 f1 : Int
 f2 : Int
def z94 : S94 := ⟨(0 : Int), (0 : Int), (0 : Int)⟩
def k94 : Kd S94 := Kd.iso (Kd.pair (Kd.int .i64) (Kd.pair (Kd.int .i64) (Kd.int .i64))) (fun x : S94 => (x.f0, x.f1, x.f2))
theorem k94_open {w : World} {x : S94} {cs : List Value} (h : k94.K w x cs) : cs = [.int .i64 x.f0, .int .i64 x.f1, .int .i64 x.f2] := by
 obtain ⟨_, _, rfl, rfl, ⟨_, _, rfl, rfl, rfl⟩⟩ := h
 exact rfl
theorem k94_openM {w : World} {base : Nat} {ok : Nat → Prop} {x : S94} {cs : List Value} (h : k94.M w base ok x cs) : cs = [.int .i64 x.f0, .int .i64 x.f1, .int .i64 x.f2] := by
 obtain ⟨_, _, rfl, rfl, ⟨_, _, rfl, rfl, rfl⟩⟩ := h
 exact rfl
theorem k94_mkM (w : World) (base : Nat) (ok : Nat → Prop) (x : S94)  : k94.M w base ok x [.int .i64 x.f0, .int .i64 x.f1, .int .i64 x.f2] := ⟨[.int .i64 x.f0], [.int .i64 x.f1, .int .i64 x.f2], rfl, rfl, ⟨[.int .i64 x.f1], [.int .i64 x.f2], rfl, rfl, rfl⟩⟩
def rd_T94 (xs : List S94) (i : Int) : S94 := xs.getD i.toNat z94
theorem at_T94 {w : World} {A : Option Addr} {n : Nat} {xs : List S94} (h : Kd.C k94 w A n xs) (i : Int) (h0 : 0 ≤ i) (h1 : i < n) : ∃ ad , A = some ad ∧ w.cell? (ad.add (i.toNat * 3)) = some (.int .i64 (rd_T94 xs i).f0) ∧ w.cell? ⟨(ad.add (i.toNat * 3)).block, (ad.add (i.toNat * 3)).off + 1, none⟩ = some (.int .i64 (rd_T94 xs i).f1) ∧ w.cell? ⟨(ad.add (i.toNat * 3)).block, (ad.add (i.toNat * 3)).off + 2, none⟩ = some (.int .i64 (rd_T94 xs i).f2) := by
 obtain ⟨ad, c, e, _, hK, hc0⟩ := Kd.C_get h z94 i h0 h1
 have hc : ∀ j u, c[j]? = some u → w.cell? (ad.add (i.toNat * 3 + j)) = some u := hc0
 obtain rfl := k94_open hK
 exact ⟨ad, e, hc 0 _ rfl, by rw [← add_field _ _ 1 (by omega)]; exact hc 1 _ rfl, by rw [← add_field _ _ 2 (by omega)]; exact hc 2 _ rfl⟩
def rd_L3 (xs : List (List S94)) (i : Int) : (List S94) := xs.getD i.toNat ([] : List S94)
theorem at_L3 {w : World} {A : Option Addr} {n : Nat} {xs : List (List S94)} (h : Kd.C (Kd.slice 94 k94) w A n xs) (i : Int) (h0 : 0 ≤ i) (h1 : i < n) : ∃ ad A0 c0, A = some ad ∧ w.cell? (ad.add i.toNat) = some (.slice A0 (rd_L3 xs i).length c0) ∧ (rd_L3 xs i).length ≤ c0 ∧ k94.C w A0 (rd_L3 xs i).length (rd_L3 xs i) := by
 obtain ⟨ad, c, e, _, hK, hc0⟩ := Kd.C_get h ([] : List S94) i h0 h1
 have hc : ∀ j u, c[j]? = some u → w.cell? (ad.add (i.toNat * 1 + j)) = some u := hc0
 obtain ⟨A0, c0, rfl, l0, g0⟩ := hK
 exact ⟨ad, A0, c0, e, by have hq := hc 0 _ rfl; rwa [Nat.mul_one, Nat.add_zero] at hq, l0, g0⟩
structure S100 where
 f0 : (List Int)
 f1 : Int
end
end Go.Proofs.Ytcobnlilmihjfaa.A
/- Plain words on rounds: loops over a list by its index, in 'from some number of rounds on' form. No program in sight. -/
namespace Go.Proofs.YtcobnlilmihjfaaW.PrintMore
open Go.RowKit Go.Proofs.YtcobnlilmihjfaaW.PrintWords
theorem wrap_id {x : Int} (h0 : -9223372036854775808 ≤ x) (h1 : x ≤ 9223372036854775807) : wrap64 x = x := by unfold wrap64; omega
theorem wrap_succ (j : Nat) (h : j < 9223372036854775807) : wrap64 ((j : Int) + 1) = ((j + 1 : Nat) : Int) := by unfold wrap64; omega
theorem Ev.unfold {α : Type} {g f : Nat → Option α} {r : α} (h : ∀ k, g k = f k) (k : Ev f r) : Ev g r := Ev.congr h k
theorem Ev.val {α : Type} {g : Nat → Option α} {r : α} (h : ∀ k, g k = some r) : Ev g r := ⟨0, fun k _ => h k⟩
theorem Ev.succ {α : Type} {g : Nat → Option α} {r : α} (h : Ev (fun k => g (k + 1)) r) : Ev g r := Ev.step (fun _ => rfl) h
theorem ev_inv {σ β : Type} (N : Nat) (I : σ → Nat → Prop) (Q : β → Prop) (l : σ → Int → Nat → Option β)
  (hd : ∀ s, I s N → ∃ r, Q r ∧ Ev (l s (N : Int)) r)
  (hs : ∀ s (j : Nat), j < N → I s j → (∃ r, Q r ∧ Ev (l s (j : Int)) r) ∨ ∃ s', I s' (j + 1) ∧ ∀ r, Ev (l s' ((j + 1 : Nat) : Int)) r → Ev (l s (j : Int)) r) :
  ∀ (n j : Nat) (s : σ), j + n = N → I s j → ∃ r, Q r ∧ Ev (l s (j : Int)) r := by
 intro n
 induction n with
 | zero =>
  intro j s h hi
  have : j = N := by omega
  subst this
  exact hd s hi
 | succ n ih =>
  intro j s h hi
  rcases hs s j (by omega) hi with h1 | ⟨s', hi', h1⟩
  ·exact h1
  ·obtain ⟨r, hq, hr⟩ := ih (j + 1) s' (by omega) hi'
   exact ⟨r, hq, h1 r hr⟩
theorem ev_inv0 {σ β : Type} (N : Nat) (I : σ → Nat → Prop) (Q : β → Prop) (l : σ → Int → Nat → Option β)
  (hd : ∀ s, I s N → ∃ r, Q r ∧ Ev (l s (N : Int)) r)
  (hs : ∀ s (j : Nat), j < N → I s j → (∃ r, Q r ∧ Ev (l s (j : Int)) r) ∨ ∃ s', I s' (j + 1) ∧ ∀ r, Ev (l s' ((j + 1 : Nat) : Int)) r → Ev (l s (j : Int)) r)
  (s : σ) (h0 : I s 0) : ∃ r, Q r ∧ Ev (l s 0) r := ev_inv N I Q l hd hs N 0 s (by omega) h0
theorem ev_at {σ β : Type} (N : Nat) (I : σ → Nat → Prop) (r : β) (l : σ → Int → Nat → Option β)
  (hd : ∀ s, I s N → Ev (l s (N : Int)) r)
  (hs : ∀ s (j : Nat), j < N → I s j → ∃ s', I s' (j + 1) ∧ (Ev (l s' ((j + 1 : Nat) : Int)) r → Ev (l s (j : Int)) r))
  (s : σ) (h0 : I s 0) : Ev (l s 0) r := by
 have key : ∀ (n j : Nat) (s : σ), j + n = N → I s j → Ev (l s (j : Int)) r := by
  intro n
  induction n with
  | zero =>
   intro j s h hi
   have : j = N := by omega
   subst this
   exact hd s hi
  | succ n ih =>
   intro j s h hi
   obtain ⟨s', hi', h1⟩ := hs s j (by omega) hi
   exact h1 (ih (j + 1) s' (by omega) hi')
 exact key N 0 s (by omega) h0
theorem rd_nat (xs : List Int) (j : Nat) (h : j < xs.length) : rd xs (j : Int) = xs[j] := by unfold rd; simp [h]
theorem getD_nat {α : Type} (xs : List α) (d : α) (j : Nat) (h : j < xs.length) : xs.getD ((j : Int).toNat) d = xs[j] := by simp [h]
theorem getD_at {α : Type} (xs : List α) (d : α) (j : Nat) (h : j < xs.length) : xs.getD j d = xs[j] := by simp [h]
end Go.Proofs.YtcobnlilmihjfaaW.PrintMore

namespace Go.Proofs.Ytcobnlilmihjfaa.A
open Go.RowKit Go.Proofs.YtcobnlilmihjfaaW.PrintWords Go.Proofs.YtcobnlilmihjfaaW.PrintLast Go.Proofs.YtcobnlilmihjfaaW.PrintMore
set_option linter.unusedVariables false
set_option linter.unusedSimpArgs false
abbrev Cb := S94
instance : DecidableEq Cb := fun a b => by
 cases a with | mk a0 a1 a2 => cases b with | mk b0 b1 b2 =>
 exact if h : a0 = b0 ∧ a1 = b1 ∧ a2 = b2 then isTrue (by obtain ⟨rfl, rfl, rfl⟩ := h; rfl) else isFalse (fun e => h (by injection e with h1 h2 h3; exact ⟨h1, h2, h3⟩))
instance : Inhabited Cb := ⟨⟨0, 0, 0⟩⟩
def addC (a b : Cb) : Cb := ⟨wrap64 (a.f0 + b.f0), wrap64 (a.f1 + b.f1), wrap64 (a.f2 + b.f2)⟩
def subC (a b : Cb) : Cb := ⟨wrap64 (a.f0 - b.f0), wrap64 (a.f1 - b.f1), wrap64 (a.f2 - b.f2)⟩
def inR (x lo hi : Int) : Bool := decide (lo ≤ x) && decide (x ≤ hi)
def inCb (c : Cb) (lo hi : Int) : Bool := inR c.f0 lo hi && (inR c.f1 lo hi && inR c.f2 lo hi)
def meets (pa pb : List Cb) (d : Cb) : Bool := pb.any fun c => pa.contains (addC c d)
def partAt (parts : List (List Cb)) (a : Int) : List Cb := parts.getD a.toNat []
def touchP (parts : List (List Cb)) (a b : Int) (d : Cb) : Bool := inCb d (-7) 7 && meets (partAt parts a) (partAt parts b) d
def aloneP (parts : List (List Cb)) (offs : List Cb) (p : Int) (o : Cb) : Bool := (List.range offs.length).all fun k => decide ((k : Int) = p) || !touchP parts k p (subC o (offs.getD k ⟨0, 0, 0⟩))
def clearP (parts : List (List Cb)) (offs : List Cb) : Bool := (List.range offs.length).all fun k => aloneP parts (offs.take k) k (offs.getD k ⟨0, 0, 0⟩)
def areOffP (parts : List (List Cb)) (offs : List Cb) : Bool := decide (offs.length = parts.length) && (decide (offs.getD 0 ⟨0, 0, 0⟩ = ⟨0, 0, 0⟩) && (offs.all (fun c => inCb c (-12) 12) && clearP parts offs))
def vecs : List Cb := [⟨-1, 0, 0⟩, ⟨1, 0, 0⟩, ⟨0, -1, 0⟩, ⟨0, 1, 0⟩, ⟨0, 0, -1⟩, ⟨0, 0, 1⟩]
def vecP (d : Int) : Cb := vecs.getD d.toNat ⟨0, 0, 0⟩
def movedP (offs : List Cb) (m : Int) : List Cb := (List.range offs.length).map fun k => if (m.toNat / 6).testBit k = true then addC (offs.getD k ⟨0, 0, 0⟩) (vecP (m % 6)) else offs.getD k ⟨0, 0, 0⟩
def possP (parts : List (List Cb)) (offs : List Cb) (m : Int) : Bool := areOffP parts (movedP offs m)
def isMv (n : Nat) (m : Int) : Bool := decide (6 ≤ m) && (decide (m < 6 * 2 ^ n) && decide (m / 6 % 2 = 0))
def movesP (parts : List (List Cb)) (offs : List Cb) : List Int := ((List.range (6 * 2 ^ parts.length)).filter fun m : Nat => decide (12 ≤ m) && (isMv parts.length (m : Int) && possP parts offs (m : Int))).map fun (m : Nat) => (m : Int)
end Go.Proofs.Ytcobnlilmihjfaa.A
/- Rows whose inner rows lie apart (Kd.S), as separate resources; a resource that is lent. -/
namespace Go.Proofs.YtcobnlilmihjfaaW.PrintMore
open Go.RowKit Go.Proofs.YtcobnlilmihjfaaW.PrintWords Go.Proofs.YtcobnlilmihjfaaW.PrintLast
set_option linter.unusedVariables false
namespace Sp
variable {w0 w w' : World} {rs rs' : List Res} {r r' : Res} {i : Nat} {α : Type} {d : Kd α} {e base : Nat} {v : Value} {xs : List α}
theorem lend (h : Sp w0 rs w) (hi : rs[i]? = some r) : ∃ fp : Nat → Prop, r.P fp w ∧ (∀ k, fp k → w0.heap.size ≤ k ∧ k < w.heap.size) ∧ ∀ (w' : World) (r' : Res), Turns fp w w' → r'.P (fun k => fp k ∨ (w.heap.size ≤ k ∧ k < w'.heap.size)) w' → Sp w0 (rs.set i r') w' := by
 obtain ⟨F, h1, h2, h3⟩ := h.foot
 refine ⟨F i, h1 i r hi, h3 i, fun w' r' ht hr => ?_⟩
 refine ⟨ht.below h.below (fun k hk => (h3 i k hk).1), fun j => if j = i then (fun k => F i k ∨ (w.heap.size ≤ k ∧ k < w'.heap.size)) else F j, fun j s hj => ?_, fun j l k hjl => ?_, fun j k => ?_⟩
 ·by_cases e : j = i
  ·subst e
   have hl : j < rs.length := (List.getElem?_eq_some_iff.1 hi).1
   rw [List.getElem?_set_self hl] at hj
   injection hj with hj
   subst hj
   simpa using hr
  ·rw [List.getElem?_set_ne (Ne.symm e)] at hj
   simp only [if_neg e]
   exact s.mono (fun k hk => hk.1) (s.move (fun k hk hlt => ht.block k hlt (fun hik => h2 i j k (Ne.symm e) hik hk)) (h1 j s hj))
 ·by_cases e : j = i
  ·by_cases e' : l = i
   ·exact absurd (e.trans e'.symm) hjl
   ·simp only [if_pos e, if_neg e']
    rintro (hk | hk) hl
    ·exact h2 i l k (Ne.symm e') hk hl
    ·have := (h3 l k hl).2; omega
  ·by_cases e' : l = i
   ·simp only [if_neg e, if_pos e']
    rintro hj (hk | hk)
    ·exact h2 j i k e hj hk
    ·have := (h3 j k hj).2; omega
   ·simp only [if_neg e, if_neg e']
    exact h2 j l k hjl
 ·by_cases e : j = i
  ·simp only [if_pos e]
   rintro (hk | hk)
   ·exact ⟨(h3 i k hk).1, Nat.lt_of_lt_of_le (h3 i k hk).2 ht.size⟩
   ·exact ⟨Nat.le_trans h.below.size hk.1, hk.2⟩
  ·simp only [if_neg e]
   exact fun hk => ⟨(h3 j k hk).1, Nat.lt_of_lt_of_le (h3 j k hk).2 ht.size⟩
theorem turns_of {fp : Nat → Prop} (hb : Below w0.heap.size w0 w) (hb' : Below w0.heap.size w0 w') (hk : Kept w w' fp) : Turns fp w w' :=
 ⟨hb'.os.trans hb.os.symm, hb'.tape.trans hb.tape.symm, hb'.output.trans hb.output.symm, hk.1, fun k h1 h2 => hk.2 k h1 h2⟩
end Sp
end Go.Proofs.YtcobnlilmihjfaaW.PrintMore

/- A row of one's own becomes an element of a row of rows (Kd.S), over separate resources. -/
namespace Go.Proofs.YtcobnlilmihjfaaW.PrintMore
open Go.RowKit Go.Proofs.YtcobnlilmihjfaaW.PrintWords Go.Proofs.YtcobnlilmihjfaaW.PrintLast
set_option linter.unusedVariables false
theorem Sp.boxed {w0 w w1 : World} {rs : List Res} {g : Nat} {cs : Array Value} {t : Nat} (h : Sp w0 rs w) (hg : g = w.heap.size) (hc : w1.heap[g]? = some (.cells cs t (0, 0))) (hb : Below w.heap.size w w1) : Sp w0 (Res.blk g cs t :: rs) w1 :=
 h.push hb ⟨⟨by omega, blk_lt hc⟩, hc⟩
theorem Sp.pureIn {w0 w : World} {rs : List Res} {c : Prop} (h : Sp w0 rs w) (hc : c) : Sp w0 (Res.pure c :: rs) w := h.push (Below.refl _ _) hc
theorem Sp.app {w0 w1 w2 : World} {rs rs2 : List Res} (h : Sp w0 rs w1) (h2 : Sp w1 rs2 w2) : Sp w0 (rs2 ++ rs) w2 := by
 obtain ⟨F, f1, f2, f3⟩ := h.foot
 obtain ⟨G, g1, g2, g3⟩ := h2.foot
 have hb : Below w0.heap.size w0 w2 := (Turns.of_below (fp := fun _ => False) h2.below).below h.below (fun _ hk => hk.elim)
 refine ⟨hb, fun j => if j < rs2.length then G j else F (j - rs2.length), fun j s hj => ?_, fun i j k hij => ?_, fun j k => ?_⟩
 ·by_cases c : j < rs2.length
  ·rw [List.getElem?_append_left c] at hj
   simp only [if_pos c]
   exact g1 j s hj
  ·rw [List.getElem?_append_right (by omega)] at hj
   simp only [if_neg c]
   exact s.mono (fun k hk => hk.1) (s.move (fun k hk hlt => h2.below.block k hlt) (f1 _ s hj))
 ·by_cases c : i < rs2.length
  ·by_cases d : j < rs2.length
   ·simp only [if_pos c, if_pos d]
    exact g2 i j k hij
   ·simp only [if_pos c, if_neg d]
    intro hi hj
    have := (g3 i k hi).1
    have := (f3 _ k hj).2
    omega
  ·by_cases d : j < rs2.length
   ·simp only [if_neg c, if_pos d]
    intro hi hj
    have := (g3 j k hj).1
    have := (f3 _ k hi).2
    omega
   ·simp only [if_neg c, if_neg d]
    exact f2 _ _ k (by omega)
 ·by_cases c : j < rs2.length
  ·simp only [if_pos c]
   intro hk
   have h3 := g3 j k hk
   have := h.below.size
   exact ⟨by omega, h3.2⟩
  ·simp only [if_neg c]
   intro hk
   have h3 := f3 _ k hk
   have := h2.below.size
   exact ⟨h3.1, by omega⟩
end Go.Proofs.YtcobnlilmihjfaaW.PrintMore

namespace Go.Proofs.Ytcobnlilmihjfaa.A
open Go.RowKit Go.Proofs.YtcobnlilmihjfaaW.PrintWords Go.Proofs.YtcobnlilmihjfaaW.PrintLast Go.Proofs.YtcobnlilmihjfaaW.PrintMore
set_option linter.unusedVariables false
set_option linter.unusedSimpArgs false
section
attribute [local go_sem] max2_int min2_int max_two min_two max_three min_three max_four min_four
def impl_within.f (a0 : Int) (a1 : Int) (a2 : Int) : Option (Bool) := if a0 ≥ a1 then (some (decide (a0 ≤ a2))) else (some false)
set_option maxHeartbeats 8000000 in
set_option maxRecDepth 100000 in
theorem impl_within.calls (a0 : Int) (a1 : Int) (a2 : Int) (r : Bool) (w : World) (h : impl_within.f a0 a1 a2 = some r) :
    Calls Try.prog 53 #[.int .i64 a0, .int .i64 a1, .int .i64 a2] w fun e w' => e = .returned (.bool r) ∧ Drawn0 w w' := by
 (have H : (if a0 ≥ a1 then (some (decide (a0 ≤ a2))) else (some false)) = some r := h); clear h; (by_cases c4 : a0 ≥ a1)
 ·(rw [if_pos c4] at H); (have c4b0 : decide (a1 ≤ a0) = true := decide_eq_true c4); clear c4; (obtain rfl := Option.some.inj H); (go_enter Try.func53, Try.ntmps53); go_wp2; go_ret; (exact ⟨by first | rfl | (simp; done) | (simp [*]; done), by repeat (first | exact Drawn0.refl _ | apply Drawn0.step)⟩)
 ·(rw [if_neg c4] at H); (have c4b0 : decide (a1 ≤ a0) = false := decide_eq_false c4); clear c4; (obtain rfl := Option.some.inj H); (go_enter Try.func53, Try.ntmps53); go_wp2; go_ret; (exact ⟨by first | rfl | (simp; done) | (simp [*]; done), by repeat (first | exact Drawn0.refl _ | apply Drawn0.step)⟩)
end
section
attribute [local go_sem] max2_int min2_int max_two min_two max_three min_three max_four min_four
def impl_inCube.f (a0_0 : Int) (a0_1 : Int) (a0_2 : Int) (a1 : Int) (a2 : Int) : Option (Bool) := (impl_within.f a0_0 a1 a2).bind fun t355 => (if t355 = true then ((impl_within.f a0_1 a1 a2).bind fun t356 => (if t356 = true then ((impl_within.f a0_2 a1 a2).bind fun t357 => (some t357)) else (some false))) else (some false))
set_option maxHeartbeats 8000000 in
set_option maxRecDepth 100000 in
theorem impl_inCube.calls (a0_0 : Int) (a0_1 : Int) (a0_2 : Int) (a1 : Int) (a2 : Int) (r : Bool) (w : World) (h : impl_inCube.f a0_0 a0_1 a0_2 a1 a2 = some r) :
    Calls Try.prog 76 #[.agg #[.int .i64 a0_0, .int .i64 a0_1, .int .i64 a0_2], .int .i64 a1, .int .i64 a2] w fun e w' => e = .returned (.bool r) ∧ Below w.heap.size w w' := by
 (have hu94 := Try.underlying94); (have HB := A0_ (Below.refl w.heap.size w))
 have H : ((impl_within.f a0_0 a1 a2).bind fun t355 => (if t355 = true then ((impl_within.f a0_1 a1 a2).bind fun t356 => (if t356 = true then ((impl_within.f a0_2 a1 a2).bind fun t357 => (some t357)) else (some false))) else (some false))) = some r := h
 clear h; (replace H := Option.bind_eq_some_iff.mp H); (obtain ⟨t355, A40, H⟩ := H); (try dsimp only at H); (have A4 := A0_ A40); clear A40; (have H0_ := A0_ H); clear H; (go_enter Try.func76, Try.ntmps76); (go_wp2_with (first | ((with_reducible refine gate_dst (N := 3) rfl ?_); refine be_ (N := 3) (cs := #[.int .i64 a0_0, .int .i64 a0_1, .int .i64 a0_2]) (t := 94) ?_; intro gb354 hg w5 hbox hb; have n0_ := A0_ (below_step bw_ hb); have n1_ := A0_ (hbox); have n2_ := A0_ ((by rw [hg]; exact (below_size bw_) : w.heap.size ≤ gb354)); have n3_ := A0_ ((by rw [hg]; exact (below_size bw_) : w.heap.size ≤ gb354)); clear HB; have HB := n0_; have BK354 := n1_; have GW354 := n2_; have GE354 := n3_; clear n0_ n1_ n2_ n3_; clear hb hbox hg; have hcz6_0 : w5.cell? ⟨gb354, 0, none⟩ = some (.int .i64 a0_0) := (blk_cell BK354.out 0).trans rfl; have hcz6_1 : w5.cell? ⟨gb354, 1, none⟩ = some (.int .i64 a0_1) := (blk_cell BK354.out 1).trans rfl; have hcz6_2 : w5.cell? ⟨gb354, 2, none⟩ = some (.int .i64 a0_2) := (blk_cell BK354.out 2).trans rfl; have hfz6_0 := blk_frozen BK354.out 0; have hfz6_1 := blk_frozen BK354.out 1; have hfz6_2 := blk_frozen BK354.out 2) | ((with_reducible refine gate_callee (f := 53) rfl ?_); refine gl_ (some 11) Try.func53 #[.int .i64 a0_0, .int .i64 a1, .int .i64 a2] ?_; (with_reducible refine (impl_within.calls a0_0 a1 a2 t355 _ A4.out).mono ?_); rintro e w' ⟨rfl, ⟨nd, rfl⟩⟩; refine ⟨_, rfl, ?_⟩; refine Stop0.out ?_))); (refine Stop0.mk ?_); (have H := H0_.out); clear H0_; (by_cases c7 : t355 = true)
 ·subst c7; (have H1 := H); (rw [if_pos rfl] at H1); clear H; (have H := H1); clear H1; (replace H := Option.bind_eq_some_iff.mp H); (obtain ⟨t356, A80, H⟩ := H); (try dsimp only at H); (have A8 := A0_ A80); clear A80; (have H0_ := A0_ H); clear H; (have hcz9_0 : w5.cell? ⟨gb354, 0, none⟩ = some (.int .i64 a0_0) := (blk_cell BK354.out 0).trans rfl); (have hcz9_1 : w5.cell? ⟨gb354, 1, none⟩ = some (.int .i64 a0_1) := (blk_cell BK354.out 1).trans rfl); (have hcz9_2 : w5.cell? ⟨gb354, 2, none⟩ = some (.int .i64 a0_2) := (blk_cell BK354.out 2).trans rfl); (have hfz9_0 := blk_frozen BK354.out 0); (have hfz9_1 := blk_frozen BK354.out 1); (have hfz9_2 := blk_frozen BK354.out 2); (go_wp2_with (first | (go_at_call 53; (with_reducible refine (impl_within.calls a0_1 a1 a2 t356 _ A8.out).mono ?_); rintro e w' ⟨rfl, ⟨nd, rfl⟩⟩; refine Stop0.out ?_))); (refine Stop0.mk ?_); (have H := H0_.out); clear H0_; (by_cases c10 : t356 = true)
  ·subst c10; (have H1 := H); (rw [if_pos rfl] at H1); clear H; (have H := H1); clear H1; (replace H := Option.bind_eq_some_iff.mp H); (obtain ⟨t357, A110, H⟩ := H); (try dsimp only at H); (have A11 := A0_ A110); clear A110; (have H0_ := A0_ H); clear H; (have hcz12_0 : w5.cell? ⟨gb354, 0, none⟩ = some (.int .i64 a0_0) := (blk_cell BK354.out 0).trans rfl); (have hcz12_1 : w5.cell? ⟨gb354, 1, none⟩ = some (.int .i64 a0_1) := (blk_cell BK354.out 1).trans rfl); (have hcz12_2 : w5.cell? ⟨gb354, 2, none⟩ = some (.int .i64 a0_2) := (blk_cell BK354.out 2).trans rfl); (have hfz12_0 := blk_frozen BK354.out 0); (have hfz12_1 := blk_frozen BK354.out 1); (have hfz12_2 := blk_frozen BK354.out 2); (go_wp2_with (first | (go_at_call 53; (with_reducible refine (impl_within.calls a0_2 a1 a2 t357 _ A11.out).mono ?_); rintro e w' ⟨rfl, ⟨nd, rfl⟩⟩; refine Stop0.out ?_))); (refine Stop0.mk ?_); (have H := H0_.out); clear H0_; (obtain rfl := Option.some.inj H); go_wp2; go_ret; (exact ⟨er_, bx_⟩)
  ·(replace c10 := Bool.eq_false_iff.mpr c10); subst c10; (have H1 : (some false) = some r := by rw [if_neg (show ¬ (false = true) by decide)] at H; exact H); clear H; (have H := H1); clear H1; (obtain rfl := Option.some.inj H); go_wp2; go_ret; (exact ⟨er_, bx_⟩)
 ·(replace c7 := Bool.eq_false_iff.mpr c7); subst c7; (have H1 : (some false) = some r := by rw [if_neg (show ¬ (false = true) by decide)] at H; exact H); clear H; (have H := H1); clear H1; (obtain rfl := Option.some.inj H); go_wp2; go_ret; (exact ⟨er_, bx_⟩)
end
section
attribute [local go_sem] max2_int min2_int max_two min_two max_three min_three max_four min_four
def impl_plusCube.f (a0_0 : Int) (a0_1 : Int) (a0_2 : Int) (a1_0 : Int) (a1_1 : Int) (a1_2 : Int) : Option (Int × Int × Int) := some (wrap64 (a0_0 + a1_0), wrap64 (a0_1 + a1_1), wrap64 (a0_2 + a1_2))
set_option maxHeartbeats 8000000 in
set_option maxRecDepth 100000 in
theorem impl_plusCube.calls (a0_0 : Int) (a0_1 : Int) (a0_2 : Int) (a1_0 : Int) (a1_1 : Int) (a1_2 : Int) (r1 : Int) (r2 : Int) (r3 : Int) (w : World) (h : impl_plusCube.f a0_0 a0_1 a0_2 a1_0 a1_1 a1_2 = some (r1, r2, r3)) :
    Calls Try.prog 81 #[.agg #[.int .i64 a0_0, .int .i64 a0_1, .int .i64 a0_2], .agg #[.int .i64 a1_0, .int .i64 a1_1, .int .i64 a1_2]] w fun e w' => e = .returned (.agg #[.int .i64 r1, .int .i64 r2, .int .i64 r3]) ∧ Below w.heap.size w w' := by
 (have hu94 := Try.underlying94); (have HB := A0_ (Below.refl w.heap.size w)); (have H : (some (wrap64 (a0_0 + a1_0), wrap64 (a0_1 + a1_1), wrap64 (a0_2 + a1_2))) = some (r1, r2, r3) := h); clear h; (simp only [Option.some.injEq, Prod.mk.injEq] at H); (obtain ⟨rfl, rfl, rfl⟩ := H); (go_enter Try.func81, Try.ntmps81); (go_wp2_with (first | ((with_reducible refine gate_dst (N := 2) rfl ?_); refine be_ (N := 2) (cs := #[.int .i64 a0_0, .int .i64 a0_1, .int .i64 a0_2]) (t := 94) ?_; intro gb359 hg w3 hbox hb; have n0_ := A0_ (below_step bw_ hb); have n1_ := A0_ (hbox); have n2_ := A0_ ((by rw [hg]; exact (below_size bw_) : w.heap.size ≤ gb359)); have n3_ := A0_ ((by rw [hg]; exact (below_size bw_) : w.heap.size ≤ gb359)); clear HB; have HB := n0_; have BK359 := n1_; have GW359 := n2_; have GE359 := n3_; clear n0_ n1_ n2_ n3_; clear hb hbox hg) | ((with_reducible refine gate_dst (N := 3) rfl ?_); refine be_ (N := 3) (cs := #[.int .i64 a1_0, .int .i64 a1_1, .int .i64 a1_2]) (t := 94) ?_; intro gb360 hg w4 hbox hb; have n0_ := A0_ (blk_below (g := gb359) (o := .cells #[.int .i64 a0_0, .int .i64 a0_1, .int .i64 a0_2] 94 (0, 0)) (bk_ BK359) hb); have n1_ := A0_ (below_step bx_ hb); have n2_ := A0_ (hbox); have n3_ := A0_ ((by rw [hg]; exact (below_size bx_) : w.heap.size ≤ gb360)); have n4_ := A0_ ((by rw [hg]; exact (below_size bx_) : w.heap.size ≤ gb360)); have n5_ := A0_ ((by rw [hg]; exact Nat.ne_of_lt (blk_lt (g := gb359) (o := .cells #[.int .i64 a0_0, .int .i64 a0_1, .int .i64 a0_2] 94 (0, 0)) (bk_ BK359)) : gb359 ≠ gb360)); have n6_ := A0_ ((by rw [hg]; exact Nat.ne_of_gt (blk_lt (g := gb359) (o := .cells #[.int .i64 a0_0, .int .i64 a0_1, .int .i64 a0_2] 94 (0, 0)) (bk_ BK359)) : gb360 ≠ gb359)); clear BK359; clear HB; have BK359 := n0_; have HB := n1_; have BK360 := n2_; have GW360 := n3_; have GE360 := n4_; have NB359_360 := n5_; have NB360_359 := n6_; clear n0_ n1_ n2_ n3_ n4_ n5_ n6_; clear hb hbox hg) | ((with_reducible refine gate_dst (N := 4) rfl ?_); refine be_ (N := 4) (cs := #[.int .i64 0, .int .i64 0, .int .i64 0]) (t := 94) ?_; intro gb361 hg w5 hbox hb; have n0_ := A0_ (blk_below (g := gb359) (o := .cells #[.int .i64 a0_0, .int .i64 a0_1, .int .i64 a0_2] 94 (0, 0)) (bk_ BK359) hb); have n1_ := A0_ (blk_below (g := gb360) (o := .cells #[.int .i64 a1_0, .int .i64 a1_1, .int .i64 a1_2] 94 (0, 0)) (bk_ BK360) hb); have n2_ := A0_ (below_step bx_ hb); have n3_ := A0_ (hbox); have n4_ := A0_ ((by rw [hg]; exact (below_size bx_) : w.heap.size ≤ gb361)); have n5_ := A0_ ((by rw [hg]; exact (below_size bx_) : w.heap.size ≤ gb361)); have n6_ := A0_ ((by rw [hg]; exact Nat.ne_of_lt (blk_lt (g := gb359) (o := .cells #[.int .i64 a0_0, .int .i64 a0_1, .int .i64 a0_2] 94 (0, 0)) (bk_ BK359)) : gb359 ≠ gb361)); have n7_ := A0_ ((by rw [hg]; exact Nat.ne_of_gt (blk_lt (g := gb359) (o := .cells #[.int .i64 a0_0, .int .i64 a0_1, .int .i64 a0_2] 94 (0, 0)) (bk_ BK359)) : gb361 ≠ gb359)); have n8_ := A0_ ((by rw [hg]; exact Nat.ne_of_lt (blk_lt (g := gb360) (o := .cells #[.int .i64 a1_0, .int .i64 a1_1, .int .i64 a1_2] 94 (0, 0)) (bk_ BK360)) : gb360 ≠ gb361)); have n9_ := A0_ ((by rw [hg]; exact Nat.ne_of_gt (blk_lt (g := gb360) (o := .cells #[.int .i64 a1_0, .int .i64 a1_1, .int .i64 a1_2] 94 (0, 0)) (bk_ BK360)) : gb361 ≠ gb360)); clear BK359; clear BK360; clear HB; have BK359 := n0_; have BK360 := n1_; have HB := n2_; have BK361 := n3_; have GW361 := n4_; have GE361 := n5_; have NB359_361 := n6_; have NB361_359 := n7_; have NB360_361 := n8_; have NB361_360 := n9_; clear n0_ n1_ n2_ n3_ n4_ n5_ n6_ n7_ n8_ n9_; clear hb hbox hg; have hnb6 := NB359_360.out; have hnc6 := NB360_359.out; have hnb7 := NB359_361.out; have hnc7 := NB361_359.out; have hcz8_0 : w5.cell? ⟨gb359, 0, none⟩ = some (.int .i64 a0_0) := (blk_cell BK359.out 0).trans rfl; have hcz8_1 : w5.cell? ⟨gb359, 1, none⟩ = some (.int .i64 a0_1) := (blk_cell BK359.out 1).trans rfl; have hcz8_2 : w5.cell? ⟨gb359, 2, none⟩ = some (.int .i64 a0_2) := (blk_cell BK359.out 2).trans rfl; have hfz8_0 := blk_frozen BK359.out 0; have hfz8_1 := blk_frozen BK359.out 1; have hfz8_2 := blk_frozen BK359.out 2; have hnb9 := NB360_361.out; have hnc9 := NB361_360.out; have hcz10_0 : w5.cell? ⟨gb360, 0, none⟩ = some (.int .i64 a1_0) := (blk_cell BK360.out 0).trans rfl; have hcz10_1 : w5.cell? ⟨gb360, 1, none⟩ = some (.int .i64 a1_1) := (blk_cell BK360.out 1).trans rfl; have hcz10_2 : w5.cell? ⟨gb360, 2, none⟩ = some (.int .i64 a1_2) := (blk_cell BK360.out 2).trans rfl; have hfz10_0 := blk_frozen BK360.out 0; have hfz10_1 := blk_frozen BK360.out 1; have hfz10_2 := blk_frozen BK360.out 2; have hcz11_0 : w5.cell? ⟨gb361, 0, none⟩ = some (.int .i64 0) := (blk_cell BK361.out 0).trans rfl; have hcz11_1 : w5.cell? ⟨gb361, 1, none⟩ = some (.int .i64 0) := (blk_cell BK361.out 1).trans rfl; have hcz11_2 : w5.cell? ⟨gb361, 2, none⟩ = some (.int .i64 0) := (blk_cell BK361.out 2).trans rfl; have hfz11_0 := blk_frozen BK361.out 0; have hfz11_1 := blk_frozen BK361.out 1; have hfz11_2 := blk_frozen BK361.out 2))); (refine bodyPost_ret (results_cell_row rfl _ _ gb361 94 #[.int .i64 (wrap64 (a0_0 + a1_0)), .int .i64 (wrap64 (a0_1 + a1_1)), .int .i64 (wrap64 (a0_2 + a1_2))] (0, 0) _ rfl (by (with_reducible repeat (first | apply gn_ | apply gd_ | apply ga_)); refine blk_put (cs := #[.int .i64 (wrap64 (a0_0 + a1_0)), .int .i64 (wrap64 (a0_1 + a1_1)), .int .i64 0]) ?_ 2 _ rfl; (with_reducible repeat (first | apply gn_ | apply gd_ | apply ga_)); refine blk_put (cs := #[.int .i64 (wrap64 (a0_0 + a1_0)), .int .i64 0, .int .i64 0]) ?_ 1 _ rfl; (with_reducible repeat (first | apply gn_ | apply gd_ | apply ga_)); refine blk_put (cs := #[.int .i64 0, .int .i64 0, .int .i64 0]) ?_ 0 _ rfl; exact bk_ BK361) Try.underlying94 rfl (by kernel_rfl)) rfl ?_); (exact ⟨er_, bx_⟩)
end
section
attribute [local go_sem] max2_int min2_int max_two min_two max_three min_three max_four min_four
def impl_minusCube.f (a0_0 : Int) (a0_1 : Int) (a0_2 : Int) (a1_0 : Int) (a1_1 : Int) (a1_2 : Int) : Option (Int × Int × Int) := some (wrap64 (a0_0 - a1_0), wrap64 (a0_1 - a1_1), wrap64 (a0_2 - a1_2))
set_option maxHeartbeats 8000000 in
set_option maxRecDepth 100000 in
theorem impl_minusCube.calls (a0_0 : Int) (a0_1 : Int) (a0_2 : Int) (a1_0 : Int) (a1_1 : Int) (a1_2 : Int) (r1 : Int) (r2 : Int) (r3 : Int) (w : World) (h : impl_minusCube.f a0_0 a0_1 a0_2 a1_0 a1_1 a1_2 = some (r1, r2, r3)) :
    Calls Try.prog 99 #[.agg #[.int .i64 a0_0, .int .i64 a0_1, .int .i64 a0_2], .agg #[.int .i64 a1_0, .int .i64 a1_1, .int .i64 a1_2]] w fun e w' => e = .returned (.agg #[.int .i64 r1, .int .i64 r2, .int .i64 r3]) ∧ Below w.heap.size w w' := by
 (have hu94 := Try.underlying94); (have HB := A0_ (Below.refl w.heap.size w)); (have H : (some (wrap64 (a0_0 - a1_0), wrap64 (a0_1 - a1_1), wrap64 (a0_2 - a1_2))) = some (r1, r2, r3) := h); clear h; (simp only [Option.some.injEq, Prod.mk.injEq] at H); (obtain ⟨rfl, rfl, rfl⟩ := H); (go_enter Try.func99, Try.ntmps99); (go_wp2_with (first | ((with_reducible refine gate_dst (N := 2) rfl ?_); refine be_ (N := 2) (cs := #[.int .i64 a0_0, .int .i64 a0_1, .int .i64 a0_2]) (t := 94) ?_; intro gb351 hg w3 hbox hb; have n0_ := A0_ (below_step bw_ hb); have n1_ := A0_ (hbox); have n2_ := A0_ ((by rw [hg]; exact (below_size bw_) : w.heap.size ≤ gb351)); have n3_ := A0_ ((by rw [hg]; exact (below_size bw_) : w.heap.size ≤ gb351)); clear HB; have HB := n0_; have BK351 := n1_; have GW351 := n2_; have GE351 := n3_; clear n0_ n1_ n2_ n3_; clear hb hbox hg) | ((with_reducible refine gate_dst (N := 3) rfl ?_); refine be_ (N := 3) (cs := #[.int .i64 a1_0, .int .i64 a1_1, .int .i64 a1_2]) (t := 94) ?_; intro gb352 hg w4 hbox hb; have n0_ := A0_ (blk_below (g := gb351) (o := .cells #[.int .i64 a0_0, .int .i64 a0_1, .int .i64 a0_2] 94 (0, 0)) (bk_ BK351) hb); have n1_ := A0_ (below_step bx_ hb); have n2_ := A0_ (hbox); have n3_ := A0_ ((by rw [hg]; exact (below_size bx_) : w.heap.size ≤ gb352)); have n4_ := A0_ ((by rw [hg]; exact (below_size bx_) : w.heap.size ≤ gb352)); have n5_ := A0_ ((by rw [hg]; exact Nat.ne_of_lt (blk_lt (g := gb351) (o := .cells #[.int .i64 a0_0, .int .i64 a0_1, .int .i64 a0_2] 94 (0, 0)) (bk_ BK351)) : gb351 ≠ gb352)); have n6_ := A0_ ((by rw [hg]; exact Nat.ne_of_gt (blk_lt (g := gb351) (o := .cells #[.int .i64 a0_0, .int .i64 a0_1, .int .i64 a0_2] 94 (0, 0)) (bk_ BK351)) : gb352 ≠ gb351)); clear BK351; clear HB; have BK351 := n0_; have HB := n1_; have BK352 := n2_; have GW352 := n3_; have GE352 := n4_; have NB351_352 := n5_; have NB352_351 := n6_; clear n0_ n1_ n2_ n3_ n4_ n5_ n6_; clear hb hbox hg) | ((with_reducible refine gate_dst (N := 4) rfl ?_); refine be_ (N := 4) (cs := #[.int .i64 0, .int .i64 0, .int .i64 0]) (t := 94) ?_; intro gb353 hg w5 hbox hb; have n0_ := A0_ (blk_below (g := gb351) (o := .cells #[.int .i64 a0_0, .int .i64 a0_1, .int .i64 a0_2] 94 (0, 0)) (bk_ BK351) hb); have n1_ := A0_ (blk_below (g := gb352) (o := .cells #[.int .i64 a1_0, .int .i64 a1_1, .int .i64 a1_2] 94 (0, 0)) (bk_ BK352) hb); have n2_ := A0_ (below_step bx_ hb); have n3_ := A0_ (hbox); have n4_ := A0_ ((by rw [hg]; exact (below_size bx_) : w.heap.size ≤ gb353)); have n5_ := A0_ ((by rw [hg]; exact (below_size bx_) : w.heap.size ≤ gb353)); have n6_ := A0_ ((by rw [hg]; exact Nat.ne_of_lt (blk_lt (g := gb351) (o := .cells #[.int .i64 a0_0, .int .i64 a0_1, .int .i64 a0_2] 94 (0, 0)) (bk_ BK351)) : gb351 ≠ gb353)); have n7_ := A0_ ((by rw [hg]; exact Nat.ne_of_gt (blk_lt (g := gb351) (o := .cells #[.int .i64 a0_0, .int .i64 a0_1, .int .i64 a0_2] 94 (0, 0)) (bk_ BK351)) : gb353 ≠ gb351)); have n8_ := A0_ ((by rw [hg]; exact Nat.ne_of_lt (blk_lt (g := gb352) (o := .cells #[.int .i64 a1_0, .int .i64 a1_1, .int .i64 a1_2] 94 (0, 0)) (bk_ BK352)) : gb352 ≠ gb353)); have n9_ := A0_ ((by rw [hg]; exact Nat.ne_of_gt (blk_lt (g := gb352) (o := .cells #[.int .i64 a1_0, .int .i64 a1_1, .int .i64 a1_2] 94 (0, 0)) (bk_ BK352)) : gb353 ≠ gb352)); clear BK351; clear BK352; clear HB; have BK351 := n0_; have BK352 := n1_; have HB := n2_; have BK353 := n3_; have GW353 := n4_; have GE353 := n5_; have NB351_353 := n6_; have NB353_351 := n7_; have NB352_353 := n8_; have NB353_352 := n9_; clear n0_ n1_ n2_ n3_ n4_ n5_ n6_ n7_ n8_ n9_; clear hb hbox hg; have hnb6 := NB351_352.out; have hnc6 := NB352_351.out; have hnb7 := NB351_353.out; have hnc7 := NB353_351.out; have hcz8_0 : w5.cell? ⟨gb351, 0, none⟩ = some (.int .i64 a0_0) := (blk_cell BK351.out 0).trans rfl; have hcz8_1 : w5.cell? ⟨gb351, 1, none⟩ = some (.int .i64 a0_1) := (blk_cell BK351.out 1).trans rfl; have hcz8_2 : w5.cell? ⟨gb351, 2, none⟩ = some (.int .i64 a0_2) := (blk_cell BK351.out 2).trans rfl; have hfz8_0 := blk_frozen BK351.out 0; have hfz8_1 := blk_frozen BK351.out 1; have hfz8_2 := blk_frozen BK351.out 2; have hnb9 := NB352_353.out; have hnc9 := NB353_352.out; have hcz10_0 : w5.cell? ⟨gb352, 0, none⟩ = some (.int .i64 a1_0) := (blk_cell BK352.out 0).trans rfl; have hcz10_1 : w5.cell? ⟨gb352, 1, none⟩ = some (.int .i64 a1_1) := (blk_cell BK352.out 1).trans rfl; have hcz10_2 : w5.cell? ⟨gb352, 2, none⟩ = some (.int .i64 a1_2) := (blk_cell BK352.out 2).trans rfl; have hfz10_0 := blk_frozen BK352.out 0; have hfz10_1 := blk_frozen BK352.out 1; have hfz10_2 := blk_frozen BK352.out 2; have hcz11_0 : w5.cell? ⟨gb353, 0, none⟩ = some (.int .i64 0) := (blk_cell BK353.out 0).trans rfl; have hcz11_1 : w5.cell? ⟨gb353, 1, none⟩ = some (.int .i64 0) := (blk_cell BK353.out 1).trans rfl; have hcz11_2 : w5.cell? ⟨gb353, 2, none⟩ = some (.int .i64 0) := (blk_cell BK353.out 2).trans rfl; have hfz11_0 := blk_frozen BK353.out 0; have hfz11_1 := blk_frozen BK353.out 1; have hfz11_2 := blk_frozen BK353.out 2))); (refine bodyPost_ret (results_cell_row rfl _ _ gb353 94 #[.int .i64 (wrap64 (a0_0 - a1_0)), .int .i64 (wrap64 (a0_1 - a1_1)), .int .i64 (wrap64 (a0_2 - a1_2))] (0, 0) _ rfl (by (with_reducible repeat (first | apply gn_ | apply gd_ | apply ga_)); refine blk_put (cs := #[.int .i64 (wrap64 (a0_0 - a1_0)), .int .i64 (wrap64 (a0_1 - a1_1)), .int .i64 0]) ?_ 2 _ rfl; (with_reducible repeat (first | apply gn_ | apply gd_ | apply ga_)); refine blk_put (cs := #[.int .i64 (wrap64 (a0_0 - a1_0)), .int .i64 0, .int .i64 0]) ?_ 1 _ rfl; (with_reducible repeat (first | apply gn_ | apply gd_ | apply ga_)); refine blk_put (cs := #[.int .i64 0, .int .i64 0, .int .i64 0]) ?_ 0 _ rfl; exact bk_ BK353) Try.underlying94 rfl (by kernel_rfl)) rfl ?_); (exact ⟨er_, bx_⟩)
end
section
attribute [local go_sem] max2_int min2_int max_two min_two max_three min_three max_four min_four
theorem eqA94 (d : Nat) (w : World) (x0 y0 : Int) (x1 y1 : Int) (x2 y2 : Int) :
    (Op.equalIn (d + 2) 94 (.agg #[.int .i64 x0, .int .i64 x1, .int .i64 x2]) (.agg #[.int .i64 y0, .int .i64 y1, .int .i64 y2])).run Try.prog w = .ok (x0 == y0 && (x1 == y1 && (x2 == y2))) w := by
 (refine eqA_of Try.underlying94 (by kernel_rfl) ?_); (refine eqf_cons (by rfl) (by go_simp; rfl) (by go_simp; rfl) (by go_simp) ?_); (refine eqf_cons (by rfl) (by go_simp; rfl) (by go_simp; rfl) (by go_simp) ?_); (exact eqf_last (by rfl) (by go_simp; rfl) (by go_simp; rfl) (by go_simp))
end
section
attribute [local go_sem] max2_int min2_int max_two min_two max_three min_three max_four min_four
attribute [local go_sem high] eqA94
def impl_Cube_116.l0 : Nat → List (S94) → Int → Int → Int → Int → Int → Option (Int)
  | 0, _, _, _, _, _, _ => none
  | k + 1, x0, x7, x8, x333000, x333001, x333002 => if x8 < x7 then (if 0 ≤ x8 then (if x8 < (x0.length : Int) then (if (x333000 == ((rd_T94 x0 x8).f0) && (x333001 == ((rd_T94 x0 x8).f1) && (x333002 == ((rd_T94 x0 x8).f2)))) = true then (some x8) else (impl_Cube_116.l0 k x0 x7 (wrap64 (x8 + 1)) x333000 x333001 x333002)) else (none)) else (none)) else (some (-1))
def impl_Cube_116.f (k : Nat) (l0 : List (S94)) (a1_0 : Int) (a1_1 : Int) (a1_2 : Int) : Option (Int) := impl_Cube_116.l0 k l0 (l0.length : Int) 0 a1_0 a1_1 a1_2
set_option maxHeartbeats 8000000 in
set_option maxRecDepth 100000 in
theorem impl_Cube_116.calls (k : Nat) (A0 : Option Addr) (c0 : Nat) (l0 : List (S94)) (a1_0 : Int) (a1_1 : Int) (a1_2 : Int) (r : Int) (w : World) (hr0 : Kd.C k94 w A0 l0.length l0) (hc0 : l0.length ≤ c0) (h : impl_Cube_116.f k l0 a1_0 a1_1 a1_2 = some r) :
    Calls Try.prog 116 #[.slice A0 l0.length c0, .agg #[.int .i64 a1_0, .int .i64 a1_1, .int .i64 a1_2]] w fun e w' => e = .returned (.int .i64 r) ∧ Below w.heap.size w w' := by
 (have hu94 := Try.underlying94); (have HR0 := A0_ hr0); (have HC0 := A0_ hc0); clear hr0 hc0; (have HB := A0_ (Below.refl w.heap.size w)); (have H : (impl_Cube_116.l0 k l0 (l0.length : Int) 0 a1_0 a1_1 a1_2) = some r := h); clear h; (have H' := A0_ H); clear H; (go_enter Try.func116, Try.ntmps116); (go_wp2_with (first | ((with_reducible refine gate_dst (N := 3) rfl ?_); refine be_ (N := 3) (cs := #[.int .i64 a1_0, .int .i64 a1_1, .int .i64 a1_2]) (t := 94) ?_; intro gb332 hg w3 hbox hb; have n0_ := A0_ (below_step bw_ hb); have n1_ := A0_ (hbox); have n2_ := A0_ ((by rw [hg]; exact (below_size bw_) : w.heap.size ≤ gb332)); have n3_ := A0_ ((by rw [hg]; exact (below_size bw_) : w.heap.size ≤ gb332)); clear HB; have HB := n0_; have BK332 := n1_; have GW332 := n2_; have GE332 := n3_; clear n0_ n1_ n2_ n3_; clear hb hbox hg))); (repeat (go_quiet (first | ((with_reducible refine gate_dst (N := 3) rfl ?_); refine be_ (N := 3) (cs := #[.int .i64 a1_0, .int .i64 a1_1, .int .i64 a1_2]) (t := 94) ?_; intro gb332 hg w3 hbox hb; have n0_ := A0_ (below_step bw_ hb); have n1_ := A0_ (hbox); have n2_ := A0_ ((by rw [hg]; exact (below_size bw_) : w.heap.size ≤ gb332)); have n3_ := A0_ ((by rw [hg]; exact (below_size bw_) : w.heap.size ≤ gb332)); clear HB; have HB := n0_; have BK332 := n1_; have GW332 := n2_; have GE332 := n3_; clear n0_ n1_ n2_ n3_; clear hb hbox hg)); try go_wp2_with (first | ((with_reducible refine gate_dst (N := 3) rfl ?_); refine be_ (N := 3) (cs := #[.int .i64 a1_0, .int .i64 a1_1, .int .i64 a1_2]) (t := 94) ?_; intro gb332 hg w3 hbox hb; have n0_ := A0_ (below_step bw_ hb); have n1_ := A0_ (hbox); have n2_ := A0_ ((by rw [hg]; exact (below_size bw_) : w.heap.size ≤ gb332)); have n3_ := A0_ ((by rw [hg]; exact (below_size bw_) : w.heap.size ≤ gb332)); clear HB; have HB := n0_; have BK332 := n1_; have GW332 := n2_; have GE332 := n3_; clear n0_ n1_ n2_ n3_; clear hb hbox hg))))
 go_loopg [8] k (fun kq v8 w' => ∃ (x8_1 : Int), v8 = .int .i64 x8_1 ∧ Aside0 (impl_Cube_116.l0 kq l0 (l0.length : Int) x8_1 a1_0 a1_1 a1_2 = some r) ∧ Aside0 (kq ≤ k) ∧ Aside0 (w'.heap[gb332]? = some (.cells #[.int .i64 a1_0, .int .i64 a1_1, .int .i64 a1_2] 94 (0, 0))) ∧ Aside0 (Below w.heap.size w w'))
 case atStart => exact ⟨(0), (by first | rfl | (simp; done) | (simp [*]; done)), H', ⟨Nat.le_refl _⟩, ⟨by exact bk_ BK332⟩, ⟨by repeat (first | (with_reducible first | exact HB.out | apply ba_ | apply bn_ | apply bd_ | refine below_set ?_ GE332.out) | exact HB.out)⟩⟩
 case round =>
  clear H'; (try clear c1); (try clear p2); (obtain ⟨x8_1, rfl, HA, HK1, BK332, HB⟩ := hrel)
  cases gk with
  | zero => exact absurd HA.out (by simp [impl_Cube_116.l0])
  | succ k1 =>
   (have H := HA.out); clear HA; (simp only [impl_Cube_116.l0] at H); (by_cases c4 : x8_1 < (l0.length : Int))
   ·(rw [if_pos c4] at H); (have c4b0 : decide (x8_1 < (l0.length : Int)) = true := decide_eq_true c4); clear c4; (by_cases c5 : 0 ≤ x8_1)
    ·(rw [if_pos c5] at H); (have c5b0 : decide (0 ≤ x8_1) = true := decide_eq_true c5); clear c5; (by_cases c6 : x8_1 < (l0.length : Int))
     ·(rw [if_pos c6] at H); (have c6b0 : decide (x8_1 < (l0.length : Int)) = true := decide_eq_true c6); clear c6; (by_cases c7 : (a1_0 == ((rd_T94 l0 x8_1).f0) && (a1_1 == ((rd_T94 l0 x8_1).f1) && (a1_2 == ((rd_T94 l0 x8_1).f2)))) = true)
      ·(rw [if_pos c7] at H); (have c7b0 : (a1_0 == ((rd_T94 l0 x8_1).f0) && (a1_1 == ((rd_T94 l0 x8_1).f1) && (a1_2 == ((rd_T94 l0 x8_1).f2)))) = true := c7); ((try (have c7b1 : decide (a1_0 = ((rd_T94 l0 x8_1).f0) && (a1_1 == ((rd_T94 l0 x8_1).f1) && (a1_2 == ((rd_T94 l0 x8_1).f2)))) = true := by simpa using c7))); ((try (have c7b2 : (a1_0 == ((rd_T94 l0 x8_1).f0) && (a1_1 == ((rd_T94 l0 x8_1).f1) && (a1_2 == ((rd_T94 l0 x8_1).f2)))) = true := by simpa using c7))); clear c7; (obtain rfl := Option.some.inj H); (have hcz8_0 : wr.cell? ⟨gb332, 0, none⟩ = some (.int .i64 a1_0) := (blk_cell BK332.out 0).trans rfl); (have hcz8_1 : wr.cell? ⟨gb332, 1, none⟩ = some (.int .i64 a1_1) := (blk_cell BK332.out 1).trans rfl); (have hcz8_2 : wr.cell? ⟨gb332, 2, none⟩ = some (.int .i64 a1_2) := (blk_cell BK332.out 2).trans rfl); (have hfz8_0 := blk_frozen BK332.out 0); (have hfz8_1 := blk_frozen BK332.out 1); (have hfz8_2 := blk_frozen BK332.out 2); (have p333 : 0 ≤ (x8_1 : Int) := of_decide_eq_true as_); (have q333 : x8_1 < (l0.length : Int) := of_decide_eq_true as_); (obtain ⟨ad333, e333, hx333_0, hx333_1, hx333_2⟩ := at_T94 HR0.out x8_1 p333 q333); (cases e333); (replace hx333_0 := (HB.out.cell (World.block_lt_of_cell? w _ hx333_0)).trans hx333_0); (replace hx333_1 := (HB.out.cell (World.block_lt_of_cell? w _ hx333_1)).trans hx333_1); (replace hx333_2 := (HB.out.cell (World.block_lt_of_cell? w _ hx333_2)).trans hx333_2); (replace p333 := eq_true p333); (replace q333 := eq_true q333); go_wp2; (repeat (go_quiet (fail); try go_wp2)); go_ret; (exact ⟨er_, bx_⟩)
      ·(rw [if_neg c7] at H); (have c7b0 : (a1_0 == ((rd_T94 l0 x8_1).f0) && (a1_1 == ((rd_T94 l0 x8_1).f1) && (a1_2 == ((rd_T94 l0 x8_1).f2)))) = false := by simpa using c7); ((try (have c7b1 : decide (a1_0 = ((rd_T94 l0 x8_1).f0) && (a1_1 == ((rd_T94 l0 x8_1).f1) && (a1_2 == ((rd_T94 l0 x8_1).f2)))) = false := by simpa using c7))); ((try (have c7b2 : (a1_0 == ((rd_T94 l0 x8_1).f0) && (a1_1 == ((rd_T94 l0 x8_1).f1) && (a1_2 == ((rd_T94 l0 x8_1).f2)))) = false := by simpa using c7))); ((try (have c7b3 : ¬ (a1_0 = ((rd_T94 l0 x8_1).f0) && (a1_1 == ((rd_T94 l0 x8_1).f1) && (a1_2 == ((rd_T94 l0 x8_1).f2)))) := by simpa using c7))); clear c7; (have H' := A0_ H); clear H; (have hcz9_0 : wr.cell? ⟨gb332, 0, none⟩ = some (.int .i64 a1_0) := (blk_cell BK332.out 0).trans rfl); (have hcz9_1 : wr.cell? ⟨gb332, 1, none⟩ = some (.int .i64 a1_1) := (blk_cell BK332.out 1).trans rfl); (have hcz9_2 : wr.cell? ⟨gb332, 2, none⟩ = some (.int .i64 a1_2) := (blk_cell BK332.out 2).trans rfl); (have hfz9_0 := blk_frozen BK332.out 0); (have hfz9_1 := blk_frozen BK332.out 1); (have hfz9_2 := blk_frozen BK332.out 2); (have p333 : 0 ≤ (x8_1 : Int) := of_decide_eq_true as_); (have q333 : x8_1 < (l0.length : Int) := of_decide_eq_true as_); (obtain ⟨ad333, e333, hx333_0, hx333_1, hx333_2⟩ := at_T94 HR0.out x8_1 p333 q333); (cases e333); (replace hx333_0 := (HB.out.cell (World.block_lt_of_cell? w _ hx333_0)).trans hx333_0); (replace hx333_1 := (HB.out.cell (World.block_lt_of_cell? w _ hx333_1)).trans hx333_1); (replace hx333_2 := (HB.out.cell (World.block_lt_of_cell? w _ hx333_2)).trans hx333_2); (replace p333 := eq_true p333); (replace q333 := eq_true q333); go_wp2; (repeat (go_quiet (fail); try go_wp2)); (go_roundg k1)
       case measure => have := HK1.out; omega
       case rel => exact ⟨(wrap64 (x8_1 + 1)), (by first | rfl | (simp; done) | (simp [*]; done)), H', ⟨by have := HK1.out; omega⟩, ⟨by exact bk_ BK332⟩, ⟨by repeat (first | (with_reducible first | exact HB.out | apply ba_ | apply bn_ | apply bd_ | refine below_set ?_ GE332.out) | exact HB.out)⟩⟩
     ·(rw [if_neg c6] at H); (exact absurd H (by simp))
    ·(rw [if_neg c5] at H); (exact absurd H (by simp))
   ·(rw [if_neg c4] at H); (have c4b0 : decide (x8_1 < (l0.length : Int)) = false := decide_eq_false c4); clear c4; (obtain rfl := Option.some.inj H); go_wp2; (repeat (go_quiet (fail); try go_wp2)); go_ret; (exact ⟨er_, bx_⟩)
end
section
attribute [local go_sem] max2_int min2_int max_two min_two max_three min_three max_four min_four
def impl_Cube_104.f (k : Nat) (l0 : List (S94)) (a1_0 : Int) (a1_1 : Int) (a1_2 : Int) : Option (Bool) := (impl_Cube_116.f k l0 a1_0 a1_1 a1_2).bind fun t335 => (some (decide (t335 ≥ 0)))
set_option maxHeartbeats 8000000 in
set_option maxRecDepth 100000 in
theorem impl_Cube_104.calls (k : Nat) (A0 : Option Addr) (c0 : Nat) (l0 : List (S94)) (a1_0 : Int) (a1_1 : Int) (a1_2 : Int) (r : Bool) (w : World) (hr0 : Kd.C k94 w A0 l0.length l0) (hc0 : l0.length ≤ c0) (h : impl_Cube_104.f k l0 a1_0 a1_1 a1_2 = some r) :
    Calls Try.prog 104 #[.slice A0 l0.length c0, .agg #[.int .i64 a1_0, .int .i64 a1_1, .int .i64 a1_2]] w fun e w' => e = .returned (.bool r) ∧ Below w.heap.size w w' := by
 (have hu94 := Try.underlying94); (have HR0 := A0_ hr0); (have HC0 := A0_ hc0); clear hr0 hc0; (have HB := A0_ (Below.refl w.heap.size w))
 have H : ((impl_Cube_116.f k l0 a1_0 a1_1 a1_2).bind fun t335 => (some (decide (t335 ≥ 0)))) = some r := h
 clear h; (replace H := Option.bind_eq_some_iff.mp H); (obtain ⟨t335, A30, H⟩ := H); (try dsimp only at H); (have A3 := A0_ A30); clear A30; (have H0_ := A0_ H); clear H; (go_enter Try.func104, Try.ntmps104); (go_wp2_with (first | ((with_reducible refine gate_dst (N := 3) rfl ?_); refine be_ (N := 3) (cs := #[.int .i64 a1_0, .int .i64 a1_1, .int .i64 a1_2]) (t := 94) ?_; intro gb334 hg w4 hbox hb; have n0_ := A0_ (below_step bw_ hb); have n1_ := A0_ (hbox); have n2_ := A0_ ((by rw [hg]; exact (below_size bw_) : w.heap.size ≤ gb334)); have n3_ := A0_ ((by rw [hg]; exact (below_size bw_) : w.heap.size ≤ gb334)); clear HB; have HB := n0_; have BK334 := n1_; have GW334 := n2_; have GE334 := n3_; clear n0_ n1_ n2_ n3_; clear hb hbox hg; have hcz5_0 : w4.cell? ⟨gb334, 0, none⟩ = some (.int .i64 a1_0) := (blk_cell BK334.out 0).trans rfl; have hcz5_1 : w4.cell? ⟨gb334, 1, none⟩ = some (.int .i64 a1_1) := (blk_cell BK334.out 1).trans rfl; have hcz5_2 : w4.cell? ⟨gb334, 2, none⟩ = some (.int .i64 a1_2) := (blk_cell BK334.out 2).trans rfl; have hfz5_0 := blk_frozen BK334.out 0; have hfz5_1 := blk_frozen BK334.out 1; have hfz5_2 := blk_frozen BK334.out 2) | ((with_reducible refine gate_callee (f := 116) rfl ?_); refine gl_ (some 7) Try.func116 #[.slice A0 l0.length c0, .agg #[.int .i64 a1_0, .int .i64 a1_1, .int .i64 a1_2]] ?_; (with_reducible refine (impl_Cube_116.calls k _ _ l0 a1_0 a1_1 a1_2 t335 _ ?side1 ?side2 A3.out).mono ?_); (case side1 => exact kc_ (Kd.C_below HR0.out HB.out)); (case side2 => exact HC0.out); rintro e w6 ⟨rfl, hb⟩; refine ⟨_, rfl, ?_⟩; have n0_ := A0_ (blk_below (g := gb334) (o := .cells #[.int .i64 a1_0, .int .i64 a1_1, .int .i64 a1_2] 94 (0, 0)) (bk_ BK334) hb); have n1_ := A0_ (below_step bx_ hb); clear BK334; clear HB; have BK334 := n0_; have HB := n1_; clear n0_ n1_; (try clear hb); (try clear hb2); (try clear hk); (try clear hi); refine Stop0.out ?_))); (refine Stop0.mk ?_); (have H := H0_.out); clear H0_; (obtain rfl := Option.some.inj H); go_wp2; go_ret; (exact ⟨er_, bx_⟩)
end
theorem within_eq (a b c : Int) : impl_within.f a b c = some (inR a b c) := by
 unfold impl_within.f inR
 by_cases h : a ≥ b
 ·rw [if_pos h]; simp; omega
 ·rw [if_neg h]; simp; omega
theorem inCube_eq (c : Cb) (lo hi : Int) : impl_inCube.f c.f0 c.f1 c.f2 lo hi = some (inCb c lo hi) := by
 unfold impl_inCube.f inCb
 simp only [within_eq, Option.bind_some]
 cases inR c.f0 lo hi <;> cases inR c.f1 lo hi <;> simp
theorem eq_cb (a b : Cb) : (a.f0 == b.f0 && (a.f1 == b.f1 && a.f2 == b.f2)) = decide (a = b) := by
 rcases a with ⟨a0, a1, a2⟩
 rcases b with ⟨b0, b1, b2⟩
 rw [Bool.eq_iff_iff]
 simp
abbrev vC (c : Cb) : Value := .agg #[.int .i64 c.f0, .int .i64 c.f1, .int .i64 c.f2]
abbrev kC : Kd Cb := k94
def PredC (w : World) (fv : Nat) (caps : Array Value) (p : Cb → Bool) : Prop :=
 ∃ fn, Try.prog.funcs[fv]? = some fn ∧ (fn.name == "runtime.NumGoroutine") = false ∧ fn.body.isSome = true ∧
  ∀ (c : Cb) (w' : World), Below w.heap.size w w' → Calls Try.prog fv (#[vC c] ++ caps) w' fun e w'' => e = .returned (.bool (p c)) ∧ Below w'.heap.size w' w''
theorem goesF_ {P : Program} {ops : Array Oper} {rest : List Oper} {o : Oper} {a : Act} {Q : Exit → Act → World → Prop} {w : World} {f : FuncId} {fn : Func} {caps : Array Value} {az : Array Operand} {ts : Array TypeId} {x : Operand} (hf : P.funcs[f]? = some fn) (hname : (fn.name == "runtime.NumGoroutine") = false) (hb : fn.body.isSome = true) (args : Array Value)
  (hg : o.guard = none) (hop : o.op = .call { callee := .value x, args := az, argTypes := ts }) (hx : a.eval x = .func (.func f) #[] caps) (hargs : az.map a.eval = args)
  (h : Calls P f (args ++ caps) w fun e w' => ∃ v, e = .returned v ∧ wpList P ops Q rest (a.put o.dst v) w') : wpList P ops Q (o :: rest) a w := by
 refine wpList_plain hg fun K hK => ?_
 have he := enters_ hf hname hb (args ++ caps) w
 have hrun : (execOp a.eval o).run P w = .ok (.enter f (args ++ caps)) w := by
  unfold execOp
  simp [hop, resolve, Deferred.ofValue, invoke, hx, hargs, he]
 unfold Oper.wp
 rw [hrun, Oper.upon_enter]
 refine h.mono fun e w'' hh => ?_
 obtain ⟨v, rfl, hk⟩ := hh
 exact hK _ _ hk
set_option maxHeartbeats 1000000 in
set_option maxRecDepth 100000 in
theorem indexFunc_calls (A0 : Option Addr) (c0 : Nat) (l0 : List Cb) (w : World) (fv : Nat) (caps : Array Value) (p : Cb → Bool) (hp : PredC w fv caps p) (hr0 : Kd.C kC w A0 l0.length l0) :
  Calls Try.prog 105 #[.slice A0 l0.length c0, .func (.func fv) #[] caps] w fun e w' => ∃ r : Int, e = .returned (.int .i64 r) ∧ decide (0 ≤ r) = l0.any p ∧ Below w.heap.size w w' := by
 have hu24 := Try.underlying94
 obtain ⟨fn, hfn, hnm, hbd, hcall⟩ := hp
 have HR0 := A0_ hr0
 have HL := A0_ hr0.2.1
 have HCA := A0_ hcall
 clear hr0 hcall
 go_enter Try.func105, Try.ntmps105
 go_wp2
 go_loopg [8] (l0.length + 1) (fun kq v8 w' => ∃ x : Nat, v8 = .int .i64 (x : Int) ∧ Aside0 (x ≤ l0.length ∧ kq + x = l0.length + 1 ∧ (l0.take x).any p = false) ∧ Aside0 (Below w.heap.size w w'))
 case atStart => exact ⟨0, rfl, ⟨by omega, by omega, by simp⟩, ⟨Below.refl _ _⟩⟩
 case round =>
  obtain ⟨x, rfl, HX, HB⟩ := hrel
  obtain ⟨k1, rfl⟩ : ∃ k1, gk = k1 + 1 := ⟨gk - 1, by have := HX.out; omega⟩
  by_cases c : x < l0.length
  ·have c0 : decide (x < l0.length) = true := decide_eq_true c
   have c1 : (0 ≤ (x : Int)) = True := eq_true (by omega)
   have c2 : ((x : Int) < (l0.length : Int)) = True := eq_true (by omega)
   obtain ⟨ad, e, hx0, hx1, hx2⟩ := at_T94 HR0.out (x : Int) (by omega) (by omega)
   cases e
   rw [Int.toNat_natCast] at hx0 hx1 hx2
   replace hx0 := pw_cell_below HB.out hx0
   replace hx1 := pw_cell_below HB.out hx1
   replace hx2 := pw_cell_below HB.out hx2
   have er : rd_T94 l0 (x : Int) = l0[x] := by unfold rd_T94; simp [c]
   rw [er] at hx0 hx1 hx2
   have HN := A0_ (show (l0.take (x + 1)).any p = p l0[x] by rw [List.take_succ_eq_append_getElem c, List.any_append, HX.out.2.2]; simp)
   have HM := A0_ (show p l0[x] = true → l0.any p = true from fun h => List.any_eq_true.2 ⟨_, List.getElem_mem c, h⟩)
   have HW := A0_ (wrap_succ x (by have := HL.out; omega))
   generalize l0[x] = q at *
   clear c er
   have hq := A0_ (HCA.out q wr HB.out)
   cases hpq : p q with
   | true =>
    rw [hpq] at hq
    have HA := A0_ (HM.out hpq)
    clear hpq HM HN HCA
    go_wp2_with (first
     | ((with_reducible refine gate_dst (N := 16) rfl ?_); (refine goesF_ hfn hnm hbd #[vC q] rfl rfl rfl (by (try simp only [List.map_toArray, List.map_cons, List.map_nil]); first | done | rfl) ?_; refine hq.out.mono ?_; rintro e w2 ⟨rfl, hb⟩; refine ⟨_, rfl, ?_⟩; have HB2 := A0_ (below_step HB.out hb); clear hb hx0 hx1 hx2 hq)))
    go_ret
    exact ⟨(x : Int), rfl, by rw [HA.out]; exact decide_eq_true (by omega), HB2.out⟩
   | false =>
    rw [hpq] at hq HN
    clear HM HCA hpq
    go_wp2_with (first
     | ((with_reducible refine gate_dst (N := 16) rfl ?_); (refine goesF_ hfn hnm hbd #[vC q] rfl rfl rfl (by (try simp only [List.map_toArray, List.map_cons, List.map_nil]); first | done | rfl) ?_; refine hq.out.mono ?_; rintro e w2 ⟨rfl, hb⟩; refine ⟨_, rfl, ?_⟩; have HB2 := A0_ (below_step HB.out hb); clear hb hx0 hx1 hx2 hq)))
    go_roundg k1
    case measure => omega
    case rel =>
     rw [HW.out]
     exact ⟨x + 1, rfl, ⟨by have := of_decide_eq_true c0; omega, by have := HX.out; omega, HN.out⟩, HB2⟩
  ·have c0 : decide (x < l0.length) = false := decide_eq_false c
   have HN := A0_ (show l0.any p = false by have := HX.out.2.2; rw [List.take_of_length_le (by omega)] at this; exact this)
   clear c
   go_wp2
   go_ret
   exact ⟨-1, rfl, by rw [HN.out]; rfl, HB.out⟩
set_option maxHeartbeats 400000 in
theorem containsFunc_calls (A0 : Option Addr) (c0 : Nat) (l0 : List Cb) (w : World) (fv : Nat) (caps : Array Value) (p : Cb → Bool) (hp : PredC w fv caps p) (hr0 : Kd.C kC w A0 l0.length l0) :
  Calls Try.prog 74 #[.slice A0 l0.length c0, .func (.func fv) #[] caps] w fun e w' => e = .returned (.bool (l0.any p)) ∧ Below w.heap.size w w' := by
 have HR0 := A0_ hr0
 have HP := A0_ hp
 clear hr0 hp
 go_enter Try.func74, Try.ntmps74
 go_wp2_with (go_at_call 105; refine (indexFunc_calls _ _ l0 _ fv caps p HP.out HR0.out).mono ?_; rintro e w' ⟨r, rfl, hr, hb⟩; have HR := A0_ hr; clear hr)
 go_ret
 exact ⟨by rw [← HR.out]; rfl, hb⟩
theorem contains_ev (l : List Cb) (x : Cb) (h : l.length ≤ 1048576) : Ev (fun k => impl_Cube_104.f k l x.f0 x.f1 x.f2) (l.contains x) := by
 have key : ∃ r : Int, decide (r ≥ 0) = l.contains x ∧ Ev (fun k => impl_Cube_116.f k l x.f0 x.f1 x.f2) r := by
  unfold impl_Cube_116.f
  refine ev_inv0 l.length (fun (_ : Unit) j => ∀ i (hi : i < j) (hl : i < l.length), l[i] ≠ x) (fun r : Int => decide (r ≥ 0) = l.contains x) (fun _ i k => impl_Cube_116.l0 k l (l.length : Int) i x.f0 x.f1 x.f2) (fun s hi => ?_) (fun s j hj hi => ?_) () (fun i hi => by omega)
  ·refine ⟨-1, ?_, Ev.step (f := fun _ => some (-1)) (fun k => by simp only [impl_Cube_116.l0]; rw [if_neg (by omega)]) (Ev.now _)⟩
   have hn : ¬ l.contains x = true := fun hc => by
    rw [List.contains_iff_mem, List.mem_iff_getElem] at hc
    obtain ⟨i, hl, e⟩ := hc
    exact hi i hl hl e
   rw [Bool.eq_false_iff.mpr hn]
   rfl
  ·have hg : rd_T94 l (j : Int) = l[j] := by unfold rd_T94; exact getD_nat l _ j hj
   have e3 : (x.f0 == l[j].f0 && (x.f1 == l[j].f1 && x.f2 == l[j].f2)) = decide (x = l[j]) := eq_cb x l[j]
   by_cases c : x = l[j]
   ·refine .inl ⟨(j : Int), ?_, Ev.step (f := fun _ => some (j : Int)) (fun k => ?_) (Ev.now _)⟩
    ·have : l.contains x = true := by rw [c, List.contains_iff_mem]; exact List.getElem_mem hj
     rw [this]
     exact decide_eq_true (by omega)
    ·simp only [impl_Cube_116.l0, hg, e3, show (j : Int) < (l.length : Int) from by omega, show (0 : Int) ≤ (j : Int) from by omega, if_true, decide_eq_true_eq]
     rw [if_pos c]
   ·refine .inr ⟨(), fun i hi2 hl => ?_, fun r h2 => Ev.succ ?_⟩
    ·by_cases e : i = j
     ·subst e; exact fun e => c e.symm
     ·exact hi i (by omega) hl
    ·simp only [impl_Cube_116.l0, hg, e3, show (j : Int) < (l.length : Int) from by omega, show (0 : Int) ≤ (j : Int) from by omega, if_true, decide_eq_true_eq]
     simp only [c, if_false, wrap_succ j (show j < 9223372036854775807 by omega)]
     exact h2
 obtain ⟨r, hr, hk⟩ := key
 unfold impl_Cube_104.f
 refine Ev.bind hk (Ev.val fun k => by rw [hr])
end Go.Proofs.Ytcobnlilmihjfaa.A
/- A map that remembers answers: from keys of a finite set to what a function says of them. -/
namespace Go.Proofs.YtcobnlilmihjfaaW.PrintMore
open Go.RowKit Go.Proofs.YtcobnlilmihjfaaW.PrintWords
open Go.Maps (Keyed has size Tidy)
open Go.WideShapes (sorted_perm)
set_option linter.unusedVariables false
theorem nodup_sub {α : Type} [DecidableEq α] : ∀ (l m : List α), l.Nodup → (∀ x ∈ l, x ∈ m) → l.length ≤ m.length
 | [], m, _, _ => Nat.zero_le _
 | x :: l, m, hn, hs => by
  obtain ⟨h1, h2⟩ := List.nodup_cons.1 hn
  have hx := hs x (by simp)
  have := nodup_sub l (m.erase x) h2 (fun y hy => (List.mem_erase_of_ne (fun e => h1 (by rw [← e]; exact hy))).2 (hs y (by simp [hy])))
  rw [List.length_erase_of_mem hx] at this
  have := List.length_pos_of_mem hx
  simp only [List.length_cons]
  omega
section
variable {P : Program} {k e t : TypeId} {f : Value → Bool} {dom : List Value}
def Memo (P : Program) (k e : TypeId) (f : Value → Bool) (dom : List Value) (b : Nat) (w : World) : Prop :=
 ∃ (n : Nat) (D : DataW Unit), w.ownsMap P k (plainElem P e) b n D ∧ n ≤ dom.length ∧ ∀ kl, has D kl = true → ∃ key ∈ dom, keyOf P k key = some kl ∧ ∀ z, D.atKey kl z = .lit (.bool (f key))
theorem Memo.made (w : World) (P : Program) (k e : TypeId) (f : Value → Bool) (dom : List Value) : Memo P k e f dom w.heap.size (w.alloc (.map #[] 0)) :=
 ⟨0, .map [], World.ownsMap_made _ _ _ _, Nat.zero_le _, fun kl h => by simp [has] at h⟩
theorem Memo.move {b : Nat} {w w' : World} (h : Memo P k e f dom b w) (hb : w'.heap[b]? = w.heap[b]?) : Memo P k e f dom b w' := by
 obtain ⟨n, D, ⟨es, clock, h1, h2⟩, h3⟩ := h
 exact ⟨n, D, ⟨es, clock, hb.trans h1, h2⟩, h3⟩
theorem Memo.lt {b : Nat} {w : World} (h : Memo P k e f dom b w) : b < w.heap.size := by
 obtain ⟨n, D, h1, _⟩ := h
 exact h1.lt
theorem plainElem_bool_inv {H : Type} (he : P.underlying e = some .bool) {v : Value} {z : DataW H × List MemPlace} (h : plainElem P e v = some z) : ∃ x, v = .bool x ∧ z = (.lit (.bool x), []) := by
 unfold plainElem at h
 rw [he] at h
 cases v <;> simp at h
 exact ⟨_, rfl, h.symm⟩
theorem Memo.look {b : Nat} {w : World} (h : Memo P k e f dom b w) (K : Keyed P k) (ht : P.underlying t = some (.map k e)) (he : P.underlying e = some .bool) (hz : ∀ w, (zeroValue e).run P w = .ok (.bool false) w) {key : Value} {kl : Lit} (hkey : keyOf P k key = some kl) :
  (Instr.lookup t (.map (some b)) key true).run P w = .ok (.tuple #[.bool (f key), .bool true]) w ∨ (Instr.lookup t (.map (some b)) key true).run P w = .ok (.tuple #[.bool false, .bool false]) w := by
 obtain ⟨n, D, h1, h2, h3⟩ := h
 obtain ⟨v, ps, hrun, hv⟩ := h1.look_ok K ht (hz w) (plainElem_bool he false) hkey
 obtain ⟨x, rfl, hx⟩ := plainElem_bool_inv he hv
 injection hx with hx _
 cases hh : has D kl with
 | true =>
  rw [hh] at hrun
  obtain ⟨key', hd, hk', hat⟩ := h3 kl hh
  obtain rfl := K.inj hk' hkey
  rw [hat] at hx
  injection hx with hx
  injection hx with hx
  subst hx
  exact .inl hrun
 | false =>
  rw [hh] at hrun
  rw [Maps.atKey_of_not_has hh] at hx
  injection hx with hx
  injection hx with hx
  subst hx
  exact .inr hrun
theorem Memo.store {b : Nat} {w : World} (h : Memo P k e f dom b w) (K : Keyed P k) (ht : P.underlying t = some (.map k e)) (he : P.underlying e = some .bool) (hlen : dom.length < maxLen) {key : Value} {kl : Lit} (hd : key ∈ dom) (hkey : keyOf P k key = some kl) :
  ∃ w', (Instr.mapUpdate t (.map (some b)) key (.bool (f key))).run P w = .ok () w' ∧ Memo P k e f dom b w' ∧ w.grownBy w' (some b) := by
 obtain ⟨n, D, h1, h2, h3⟩ := h
 obtain ⟨w', hrun, h4, h5⟩ := h1.update K ht (by omega) hkey (plainElem_bool he (f key))
 have hm := h1.isMap
 have hik := K.key hkey
 have h6 : ∀ kl', has (D.put kl (.lit (.bool (f key)))) kl' = true → ∃ key' ∈ dom, keyOf P k key' = some kl' ∧ ∀ z, (D.put kl (.lit (.bool (f key)))).atKey kl' z = .lit (.bool (f key')) := fun kl' hh => by
  by_cases c : kl' = kl
  ·subst c
   exact ⟨key, hd, hkey, fun z => Maps.atKey_put_same hm hik _ z⟩
  ·rw [Maps.has_put_other c] at hh
   obtain ⟨key', g1, g2, g3⟩ := h3 kl' hh
   exact ⟨key', g1, g2, fun z => (Maps.atKey_put_other c _ z).trans (g3 z)⟩
 refine ⟨w', hrun, ⟨size (D.put kl (.lit (.bool (f key)))), _, ?_, ?_, h6⟩, h5⟩
 ·obtain ⟨es, clock, g1, g2, g3, g4⟩ := h4
  refine ⟨es, clock, g1, g2, ?_, g4⟩
  rw [g4]
  simp [size, length_sorted]
 ·obtain ⟨L, hL, hap⟩ := h4.tidy K
  rw [hL] at h6 ⊢
  have hsub : ∀ x ∈ L.map Prod.fst, x ∈ dom.filterMap (keyOf P k) := fun x hx => by
   rw [List.mem_map] at hx
   obtain ⟨p, hp, rfl⟩ := hx
   have hk1 : WideAt.IsKeyLit p.1 := by
    have : DataW.map L = D.put kl (.lit (.bool (f key))) := hL.symm
    obtain ⟨es, clock, g1, F, g3, g4⟩ := h4
    rw [hL] at g4
    injection g4 with g4
    rw [g4] at hp
    have hp2 := (sorted_perm _).mem_iff.1 hp
    rw [List.mem_map] at hp2
    obtain ⟨en, hen, rfl⟩ := hp2
    obtain ⟨y, hy⟩ := F.reads en hen
    have := WideElems.rd_key hy
    rw [WideElems.rg_of hy]
    exact K.key this
   have hh : has (DataW.map L) p.1 = true := by
    rw [Maps.has_eq, List.any_eq_true]
    exact ⟨p, hp, WideAt.sameKey_self hk1⟩
   obtain ⟨key', g1, g2, _⟩ := h6 p.1 hh
   exact List.mem_filterMap.2 ⟨key', g1, g2⟩
  have hnd : (L.map Prod.fst).Nodup := by
   rw [List.Nodup, List.pairwise_map]
   exact hap
  have := @nodup_sub _ (fun a b => Classical.propDecidable (a = b)) _ _ hnd hsub
  have h8 := List.length_filterMap_le (keyOf P k) dom
  rw [List.length_map] at this
  show L.length ≤ _
  omega
def Res.memo (P : Program) (k e : TypeId) (f : Value → Bool) (dom : List Value) (b : Nat) : Res where
 P fp w := fp b ∧ Memo P k e f dom b w
 mono h p := ⟨h b p.1, p.2⟩
 move h p := ⟨⟨p.1, p.2.lt⟩, p.2.move (h b p.1 p.2.lt)⟩
theorem Sp.memo {w0 w : World} {rs : List Res} {i b : Nat} (h : Sp w0 rs w) (hi : rs[i]? = some (Res.memo P k e f dom b)) : Memo P k e f dom b w := by
 obtain ⟨fp, hp, _⟩ := h.get hi
 exact hp.2
theorem Sp.memoSet {w0 w w' : World} {rs : List Res} {i b : Nat} (h : Sp w0 rs w) (hi : rs[i]? = some (Res.memo P k e f dom b)) (hm : Memo P k e f dom b w') (hg : w.grownBy w' (some b)) : Sp w0 rs w' := by
 have h2 := h.upd (r' := Res.memo P k e f dom b) hi (fun fp hp hb => ⟨Turns.of_grown hg (fun k hk => by injection hk with hk; subst hk; exact hp.1), .inl hp.1, hm⟩)
 rw [show rs.set i (Res.memo P k e f dom b) = rs from by
  apply List.ext_getElem?
  intro j
  by_cases c : i = j
  ·subst c; rw [List.getElem?_set_self (List.getElem?_eq_some_iff.1 hi).1, hi]
  ·rw [List.getElem?_set_ne c]] at h2
 exact h2
theorem Sp.memoMade {w0 w w' : World} {rs : List Res} {b : Nat} (h : Sp w0 rs w) (hb : b = w.heap.size) (hw : Below w.heap.size w w') (hm : Memo P k e f dom b w') : Sp w0 (Res.memo P k e f dom b :: rs) w' :=
 h.push hw ⟨⟨by omega, hm.lt⟩, hm⟩
end
end Go.Proofs.YtcobnlilmihjfaaW.PrintMore

namespace Go.Proofs.Ytcobnlilmihjfaa.A
open Go.RowKit Go.Proofs.YtcobnlilmihjfaaW.PrintWords Go.Proofs.YtcobnlilmihjfaaW.PrintLast Go.Proofs.YtcobnlilmihjfaaW.PrintMore
set_option linter.unusedVariables false
set_option linter.unusedSimpArgs false
abbrev kP : Kd (List Cb) := Kd.slice 94 kC
abbrev tContact : Nat := 147
abbrev keyV (a b : Int) (d : Cb) : Value := .agg #[.int .i64 a, .int .i64 b, .int .i64 d.f0, .int .i64 d.f1, .int .i64 d.f2]
def dist7 : List Int := (List.range 15).map fun (k : Nat) => (k : Int) - 7
def dom7 (n : Nat) : List Value := (List.range n).flatMap fun a : Nat => (List.range n).flatMap fun b : Nat => dist7.flatMap fun x => dist7.flatMap fun y => dist7.map fun z => keyV a b ⟨x, y, z⟩
theorem dist_mem {x : Int} (h : inR x (-7) 7 = true) : x ∈ dist7 := by
 unfold inR at h
 simp only [Bool.and_eq_true, decide_eq_true_eq] at h
 unfold dist7
 rw [List.mem_map]
 exact ⟨(x + 7).toNat, by rw [List.mem_range]; omega, by omega⟩
theorem dom_mem {n : Nat} {a b : Int} {d : Cb} (ha : 0 ≤ a ∧ a < (n : Int)) (hb : 0 ≤ b ∧ b < (n : Int)) (hd : inCb d (-7) 7 = true) : keyV a b d ∈ dom7 n := by
 unfold inCb at hd
 simp only [Bool.and_eq_true] at hd
 unfold dom7
 rw [List.mem_flatMap]
 refine ⟨a.toNat, by rw [List.mem_range]; omega, ?_⟩
 rw [List.mem_flatMap]
 refine ⟨b.toNat, by rw [List.mem_range]; omega, ?_⟩
 rw [List.mem_flatMap]
 refine ⟨d.f0, dist_mem hd.1, ?_⟩
 rw [List.mem_flatMap]
 refine ⟨d.f1, dist_mem hd.2.1, ?_⟩
 rw [List.mem_map]
 refine ⟨d.f2, dist_mem hd.2.2, ?_⟩
 rw [show ((a.toNat : Nat) : Int) = a by omega, show ((b.toNat : Nat) : Int) = b by omega]
theorem flat_len {α β : Type} (f : α → List β) (c : Nat) (l : List α) (h : ∀ x ∈ l, (f x).length = c) : (l.flatMap f).length = l.length * c := by
 induction l with
 | nil => simp
 | cons x l ih => rw [List.flatMap_cons, List.length_append, h x (by simp), ih (fun y hy => h y (by simp [hy])), List.length_cons, Nat.succ_mul]; omega
theorem dist_len : dist7.length = 15 := by simp [dist7]
theorem dom_len (n : Nat) : (dom7 n).length = n * (n * (15 * (15 * 15))) := by
 unfold dom7
 rw [flat_len _ (n * (15 * (15 * 15))) _ (fun a _ => by
  rw [flat_len _ (15 * (15 * 15)) _ (fun b _ => by
   rw [flat_len _ (15 * 15) _ (fun x _ => by
    rw [flat_len _ 15 _ (fun y _ => by rw [List.length_map, dist_len]), dist_len]), dist_len]), List.length_range]), List.length_range]
def askP (parts : List (List Cb)) : Value → Bool
 | .agg #[.int .i64 a, .int .i64 b, .int .i64 x, .int .i64 y, .int .i64 z] => touchP parts a b ⟨x, y, z⟩
 | _ => false
theorem keyed_contact : Maps.Keyed Try.prog tContact := Maps.Keyed.of_law (deep_law_laid (by kernel_rfl) (m := 9) (by decide) (of_decide_eq_true (by kernel_rfl)) (by kernel_rfl) (by kernel_rfl))
theorem key_of (a b : Int) (d : Cb) (ha : 0 ≤ a ∧ a < 9) (hb : 0 ≤ b ∧ b < 9) (hd : inCb d (-7) 7 = true) : ∃ kl, keyOf Try.prog tContact (keyV a b d) = some kl := by
 unfold inCb inR at hd
 simp only [Bool.and_eq_true, decide_eq_true_eq] at hd
 have w : ∀ x : Int, -9 ≤ x → x ≤ 9 → (Lit.int .i64 x).wf = true := fun x h1 h2 => by
  have e1 : IntKind.i64.min = -9223372036854775808 := by decide
  have e2 : IntKind.i64.max = 9223372036854775807 := by decide
  simp only [Lit.wf, e1, e2, Bool.and_eq_true, decide_eq_true_eq]
  omega
 have wa := w a (by omega) (by omega)
 have wb := w b (by omega) (by omega)
 have w0 := w d.f0 (by omega) (by omega)
 have w1 := w d.f1 (by omega) (by omega)
 have w2 := w d.f2 (by omega) (by omega)
 have hs : Try.prog.keyType tContact = true := by kernel_rfl
 have hc : Try.prog.cellsOf tContact = 5 := by kernel_rfl
 have hc3 : Try.prog.cellsOf 3 = 1 := by kernel_rfl
 have hc2 : Try.prog.cellsOf 2 = 1 := by kernel_rfl
 have hcC : Try.prog.cellsOf 94 = 3 := by kernel_rfl
 obtain ⟨m, hm⟩ : ∃ m, Try.prog.types.size + 1 = m + 3 := ⟨_, (show Try.prog.types.size + 1 = (Try.prog.types.size - 2) + 3 by kernel_rfl)⟩
 unfold keyOf
 rw [hm]
 simp (decide := true) [Try.underlying147, Try.underlying94, Try.underlying3, Try.underlying2, hs, hc, hc3, hc2, hcC, Value.formed, keyV, Value.cells, Program.keyLits, wa, wb, w0, w1, w2]
def touchC.T1 : Bool × List (List Nat × List Nat) := (true, [([], []), ([0], [0]), ([1], [1]), ([2], [2]), ([], []), ([3, 4], [3, 4]), ([5], [5]), ([], []), ([], []), ([7, 8], [7, 8]), ([6, 9, 9], [6, 9]), ([10, 10, 0, 1, 2, 3, 4, 5, 6, 7, 8, 9, 10], [10])])
def touchC.B1 : List Nat := [0, 1, 3, 7, 0, 31, 63, 0, 0, 384, 1023, 2047]
theorem touchC.tab1 : rtab .any (opsOf Try.f117 1) = touchC.T1 := by kernel_rfl
theorem touchC.bits1 : waitsOk touchC.T1.2 touchC.B1 = true := by kernel_rfl
def touchF.T4 : Bool × List (List Nat × List Nat) := (true, [([], []), ([0], [0]), ([1], [1]), ([2], [2]), ([], []), ([3, 4], [3, 4]), ([5], [5]), ([6], [6]), ([6], [6]), ([7, 0, 1, 2, 3, 4, 5, 6, 7], [7]), ([8, 9, 0, 1, 2, 3, 4, 5, 6, 7, 8, 9], [8])])
def touchF.B4 : List Nat := [0, 1, 3, 7, 0, 31, 63, 127, 127, 255, 1023]
theorem touchF.tab4 : rtab .any (opsOf Try.f107 4) = touchF.T4 := by kernel_rfl
theorem touchF.bits4 : waitsOk touchF.T4.2 touchF.B4 = true := by kernel_rfl
def touchF.T8 : Bool × List (List Nat × List Nat) := (true, [([], []), ([0], [0]), ([1], [1]), ([2], [2]), ([], []), ([], []), ([3, 4, 5, 0, 1, 2, 3, 4, 5], [3, 4, 5])])
def touchF.B8 : List Nat := [0, 1, 3, 7, 0, 0, 63]
theorem touchF.tab8 : rtab .any (opsOf Try.f107 8) = touchF.T8 := by kernel_rfl
theorem touchF.bits8 : waitsOk touchF.T8.2 touchF.B8 = true := by kernel_rfl
set_option maxHeartbeats 2000000 in
set_option maxRecDepth 100000 in
theorem touchC_pred (w : World) (gf g ga gd : Nat) (Ap : Option Addr) (cp : Nat) (m1 : Value) (parts : List (List Cb)) (a : Int) (d : Cb) (hf : w.cell? ⟨gf, 0, none⟩ = some (.pointer (some ⟨g, 0, none⟩))) (hg : w.cell? ⟨g, 0, none⟩ = some (.slice Ap parts.length cp)) (hga : w.cell? ⟨ga, 0, none⟩ = some (.int .i64 a))
  (hd0 : w.cell? ⟨gd, 0, none⟩ = some (.int .i64 d.f0)) (hd1 : w.cell? ⟨gd, 1, none⟩ = some (.int .i64 d.f1)) (hd2 : w.cell? ⟨gd, 2, none⟩ = some (.int .i64 d.f2)) (hP : kP.C w Ap parts.length parts) (ha : 0 ≤ a ∧ a < (parts.length : Int)) (hsz : ∀ p ∈ parts, p.length ≤ 1048576) :
  PredC w 117 #[.pointer (some ⟨gf, 0, none⟩), .pointer (some ⟨ga, 0, none⟩), .pointer (some ⟨gd, 0, none⟩)] (fun c => (partAt parts a).contains (addC c d)) := by
 refine ⟨_, Try.func117, by kernel_rfl, by kernel_rfl, ?_⟩
 intro c w' hb
 obtain ⟨adp, Aa, ca, e, hx0, hx1, hx2⟩ := at_L3 hP a ha.1 ha.2
 subst e
 have er : rd_L3 parts a = partAt parts a := rfl
 rw [er] at hx0 hx1 hx2
 have hal : a.toNat < parts.length := by omega
 have hpl : (partAt parts a).length ≤ 1048576 := by
  have : partAt parts a = parts[a.toNat] := by unfold partAt; simp [hal]
  rw [this]; exact hsz _ (List.getElem_mem hal)
 obtain ⟨KC, hKC⟩ := (contains_ev (partAt parts a) (addC c d) hpl).rounds
 generalize partAt parts a = pa at hx0 hx1 hx2 hKC hpl ⊢
 dsimp only
 obtain ⟨r, hr⟩ : ∃ r, r = pa.contains (addC c d) := ⟨_, rfl⟩
 rw [← hr] at hKC ⊢
 clear hr
 have HE := A0_ hx0
 have HCA := A0_ hx1
 have HPA := A0_ hx2
 have HKC := A0_ hKC
 have HF := A0_ hf
 have HG := A0_ hg
 have HA := A0_ hga
 have HD0 := A0_ hd0
 have HD1 := A0_ hd1
 have HD2 := A0_ hd2
 have HBW := A0_ hb
 have p0 : (0 ≤ a) = True := eq_true ha.1
 have p1 : (a < (parts.length : Int)) = True := eq_true ha.2
 have HS := A0_ (Sp.start w')
 clear hx0 hx1 hx2 hKC hf hg hga hd0 hd1 hd2 hb hP hsz ha hal er hpl
 have hu69 := Try.underlying94
 show Calls Try.prog 117 #[vC c, .pointer (some ⟨gf, 0, none⟩), .pointer (some ⟨ga, 0, none⟩), .pointer (some ⟨gd, 0, none⟩)] w' _
 go_enter Try.func117, Try.ntmps117
 go_wp2_with (first
  | ((with_reducible refine gate_dst (N := 4) rfl ?_); refine be_ (N := 4) (cs := #[.int .i64 c.f0, .int .i64 c.f1, .int .i64 c.f2]) (t := 94) ?_; intro gc hgb_ wb_ hcb_ hbb_; replace HS := A0_ (Sp.boxed HS.out hgb_ hcb_ hbb_); clear hgb_ hcb_ hbb_))
 replace HS := A0_ (show Sp w' ([Res.blk gc #[.int .i64 c.f0, .int .i64 c.f1, .int .i64 c.f2] 94] ++ ([] : List Res)) _ from Sp.drew HS.out)
 refine start_ (n := 12) (S := fun w' => w'.cell? ⟨gf, 0, none⟩ = some (.pointer (some ⟨g, 0, none⟩)) ∧ w'.cell? ⟨g, 0, none⟩ = some (.slice (some adp) parts.length cp) ∧ w'.cell? ⟨ga, 0, none⟩ = some (.int .i64 a) ∧ w'.cell? (adp.add a.toNat) = some (.slice Aa pa.length ca) ∧ w'.cell? ⟨gc, 0, none⟩ = some (.int .i64 c.f0) ∧ w'.cell? ⟨gc, 1, none⟩ = some (.int .i64 c.f1) ∧ w'.cell? ⟨gc, 2, none⟩ = some (.int .i64 c.f2) ∧ w'.cell? ⟨gd, 0, none⟩ = some (.int .i64 d.f0) ∧ w'.cell? ⟨gd, 1, none⟩ = some (.int .i64 d.f1) ∧ w'.cell? ⟨gd, 2, none⟩ = some (.int .i64 d.f2)) (ds := []) #[false, false, false, false, false, false, false, false, false, false, false, false] (by kernel_rfl) rfl rfl (⟨pw_cell_below (below_step HBW.out HS.out.below) HF.out, pw_cell_below (below_step HBW.out HS.out.below) HG.out, pw_cell_below (below_step HBW.out HS.out.below) HA.out, pw_cell_below (below_step HBW.out HS.out.below) HE.out, (cl_ HS 0 0 rfl).trans rfl, (cl_ HS 0 1 rfl).trans rfl, (cl_ HS 0 2 rfl).trans rfl, pw_cell_below (below_step HBW.out HS.out.below) HD0.out, pw_cell_below (below_step HBW.out HS.out.below) HD1.out, pw_cell_below (below_step HBW.out HS.out.below) HD2.out⟩) (fun hHeld => ?_)
 refine with_tabW touchC.tab1 touchC.bits1 (fun HT_ HW_ => ?_)
 generalize wb_.drew = wD at HS hHeld ⊢
 refine tk_ 0 (some 6) ?_
 refine on_ 1 (some 7) ?_
 refine on_ 2 (some 8) ?_
 refine tk_ 3 (some 9) ?_
 refine tk_ 4 (some 10) ?_
 refine on_ 5 (some 11) ?_
 refine tk_ 6 (some 12) ?_
 refine tk_ 7 (some 13) ?_
 refine tk_ 8 (some 14) ?_
 refine o1_ 9 (some 15) (fun K hK => ?_)
 refine gs_ Try.func81 #[.agg #[.int .i64 c.f0, .int .i64 c.f1, .int .i64 c.f2], .agg #[.int .i64 d.f0, .int .i64 d.f1, .int .i64 d.f2]] ?_
 refine (impl_plusCube.calls c.f0 c.f1 c.f2 d.f0 d.f1 d.f2 (addC c d).f0 (addC c d).f1 (addC c d).f2 _ rfl).mono ?_
 rintro e wA11 ⟨rfl, hb⟩
 refine ⟨_, rfl, ?_⟩
 replace HS := A0_ (Sp.far HS.out hb)
 clear hb
 refine hK.out _ _ (⟨pw_cell_below (below_step HBW.out HS.out.below) HF.out, pw_cell_below (below_step HBW.out HS.out.below) HG.out, pw_cell_below (below_step HBW.out HS.out.below) HA.out, pw_cell_below (below_step HBW.out HS.out.below) HE.out, (cl_ HS 0 0 rfl).trans rfl, (cl_ HS 0 1 rfl).trans rfl, (cl_ HS 0 2 rfl).trans rfl, pw_cell_below (below_step HBW.out HS.out.below) HD0.out, pw_cell_below (below_step HBW.out HS.out.below) HD1.out, pw_cell_below (below_step HBW.out HS.out.below) HD2.out⟩) (fun hHeld => ?_)
 clear hK K
 refine nm_ (some 15) ?_
 refine o1_ 10 (some 16) (fun K hK => ?_)
 refine gs_ Try.func104 #[.slice Aa pa.length ca, .agg #[.int .i64 (addC c d).f0, .int .i64 (addC c d).f1, .int .i64 (addC c d).f2]] ?_
 refine (impl_Cube_104.calls KC Aa ca pa (addC c d).f0 (addC c d).f1 (addC c d).f2 r _ (Kd.C_below HPA.out (below_step HBW.out HS.out.below)) HCA.out HKC.out).mono ?_
 rintro e wA12 ⟨rfl, hb⟩
 refine ⟨_, rfl, ?_⟩
 replace HS := A0_ (Sp.far HS.out hb)
 clear hb
 refine hK.out _ _ (⟨pw_cell_below (below_step HBW.out HS.out.below) HF.out, pw_cell_below (below_step HBW.out HS.out.below) HG.out, pw_cell_below (below_step HBW.out HS.out.below) HA.out, pw_cell_below (below_step HBW.out HS.out.below) HE.out, (cl_ HS 0 0 rfl).trans rfl, (cl_ HS 0 1 rfl).trans rfl, (cl_ HS 0 2 rfl).trans rfl, pw_cell_below (below_step HBW.out HS.out.below) HD0.out, pw_cell_below (below_step HBW.out HS.out.below) HD1.out, pw_cell_below (below_step HBW.out HS.out.below) HD2.out⟩) (fun hHeld => ?_)
 clear hK K
 refine nm_ (some 16) ?_
 refine on_ 11 (some 5) ?_
 refine dn_ ?_
 try go_wp2
 go_ret
 exact ⟨rfl, HS.out.below⟩
structure FrOk (w0 : World) (Ap : Option Addr) (parts : List (List Cb)) : Prop where
 C : kP.C w0 Ap parts.length parts
 len : parts.length ≤ 8
 sz : ∀ p ∈ parts, p.length ≤ 1048576
abbrev frBlk (g gM : Nat) (Ap : Option Addr) (cp : Nat) (parts : List (List Cb)) : Res := Res.blk g #[.slice Ap parts.length cp, .map (some gM)] 115
abbrev frMemo (gM : Nat) (parts : List (List Cb)) : Res := Res.memo Try.prog tContact 4 (askP parts) (dom7 parts.length) gM
theorem zero4 : ∀ w, (zeroValue 4).run Try.prog w = .ok (.bool false) w := Try.zeroValue4
set_option maxHeartbeats 4000000 in
set_option maxRecDepth 100000 in
theorem touch_calls (w0 : World) (Ap : Option Addr) (cp g gM : Nat) (parts : List (List Cb)) (hF : FrOk w0 Ap parts) (a b : Int) (d : Cb) (ha : 0 ≤ a ∧ a < (parts.length : Int)) (hb : 0 ≤ b ∧ b < (parts.length : Int)) (rest : List Res) (w : World) (hs : Sp w0 ([frBlk g gM Ap cp parts, frMemo gM parts] ++ rest) w) :
  Calls Try.prog 107 #[.pointer (some ⟨g, 0, none⟩), .int .i64 a, .int .i64 b, vC d] w fun e w' => e = .returned (.bool (touchP parts a b d)) ∧ Sp w0 ([frBlk g gM Ap cp parts, frMemo gM parts] ++ rest) w' := by
 have hu69 := Try.underlying94
 have hu156 := Try.underlying147
 have hu130 := Try.underlying115
 have HS := A0_ hs
 have HF := A0_ hF
 have HAB := A0_ (And.intro ha hb)
 clear hs hF ha hb
 cases hin : inCb d (-7) 7 with
 | false =>
  have HT := A0_ (show touchP parts a b d = false by unfold touchP; rw [hin]; rfl)
  have HIN := A0_ ((inCube_eq d (-7) 7).trans (by rw [hin]))
  rw [HT.out]
  clear hin HT
  go_enter Try.func107, Try.ntmps107
  go_wp2_with (first
   | ((with_reducible refine gate_dst (N := 4) rfl ?_); refine be_ (N := 4) (cs := #[.pointer (some ⟨g, 0, none⟩)]) (t := 64) ?_; intro gf hgb_ wb_ hcb_ hbb_; replace HS := A0_ (Sp.boxed HS.out hgb_ hcb_ hbb_); clear hgb_ hcb_ hbb_)
   | ((with_reducible refine gate_dst (N := 5) rfl ?_); refine be_ (N := 5) (cs := #[.int .i64 a]) (t := 3) ?_; intro ga hgb_ wb_ hcb_ hbb_; replace HS := A0_ (Sp.boxed HS.out hgb_ hcb_ hbb_); clear hgb_ hcb_ hbb_)
   | ((with_reducible refine gate_dst (N := 7) rfl ?_); refine be_ (N := 7) (cs := #[.int .i64 d.f0, .int .i64 d.f1, .int .i64 d.f2]) (t := 94) ?_; intro gd hgb_ wb_ hcb_ hbb_; replace HS := A0_ (Sp.boxed HS.out hgb_ hcb_ hbb_); clear hgb_ hcb_ hbb_; have hd0 := (cl_ HS 0 0 rfl).trans rfl; have hd1 := (cl_ HS 0 1 rfl).trans rfl; have hd2 := (cl_ HS 0 2 rfl).trans rfl)
   | (go_at_call 76; refine (impl_inCube.calls d.f0 d.f1 d.f2 (-7) 7 false _ HIN.out).mono ?_; rintro e wc_ ⟨rfl, hb_⟩; replace HS := A0_ (Sp.far HS.out hb_); clear hb_ hd0 hd1 hd2))
  go_ret
  exact ⟨rfl, Sp.tail (Sp.tail (Sp.tail HS.out))⟩
 | true =>
  have HIN := A0_ ((inCube_eq d (-7) 7).trans (by rw [hin]))
  have hlen := HF.out.len
  obtain ⟨kl, hkl⟩ := key_of a b d ⟨HAB.out.1.1, by have := HAB.out.1.2; omega⟩ ⟨HAB.out.2.1, by have := HAB.out.2.2; omega⟩ hin
  have HKL := A0_ hkl
  have HDM := A0_ (dom_mem HAB.out.1 HAB.out.2 hin)
  have HDL := A0_ (show (dom7 parts.length).length < maxLen by
   rw [dom_len]
   have h1 : parts.length * (parts.length * (15 * (15 * 15))) ≤ 8 * (8 * (15 * (15 * 15))) := Nat.mul_le_mul hlen (Nat.mul_le_mul hlen (Nat.le_refl _))
   unfold maxLen
   omega)
  have HTM := A0_ (show touchP parts a b d = meets (partAt parts a) (partAt parts b) d by unfold touchP; rw [hin]; rfl)
  obtain ⟨r, hr⟩ : ∃ r, r = touchP parts a b d := ⟨_, rfl⟩
  have HR := A0_ (show askP parts (keyV a b d) = r from hr.symm)
  rw [← hr] at HTM ⊢
  clear hin hkl hlen hr
  go_enter Try.func107, Try.ntmps107
  go_wp2_with (first
   | ((with_reducible refine gate_dst (N := 4) rfl ?_); refine be_ (N := 4) (cs := #[.pointer (some ⟨g, 0, none⟩)]) (t := 64) ?_; intro gf hgb_ wb_ hcb_ hbb_; replace HS := A0_ (Sp.boxed HS.out hgb_ hcb_ hbb_); clear hgb_ hcb_ hbb_)
   | ((with_reducible refine gate_dst (N := 5) rfl ?_); refine be_ (N := 5) (cs := #[.int .i64 a]) (t := 3) ?_; intro ga hgb_ wb_ hcb_ hbb_; replace HS := A0_ (Sp.boxed HS.out hgb_ hcb_ hbb_); clear hgb_ hcb_ hbb_)
   | ((with_reducible refine gate_dst (N := 7) rfl ?_); refine be_ (N := 7) (cs := #[.int .i64 d.f0, .int .i64 d.f1, .int .i64 d.f2]) (t := 94) ?_; intro gd hgb_ wb_ hcb_ hbb_; replace HS := A0_ (Sp.boxed HS.out hgb_ hcb_ hbb_); clear hgb_ hcb_ hbb_; have hd0 := (cl_ HS 0 0 rfl).trans rfl; have hd1 := (cl_ HS 0 1 rfl).trans rfl; have hd2 := (cl_ HS 0 2 rfl).trans rfl)
   | (go_at_call 76; refine (impl_inCube.calls d.f0 d.f1 d.f2 (-7) 7 true _ HIN.out).mono ?_; rintro e wc_ ⟨rfl, hb_⟩; replace HS := A0_ (Sp.far HS.out hb_); clear hb_ hd0 hd1 hd2; have hd0 := (cl_ HS 0 0 rfl).trans rfl; have hd1 := (cl_ HS 0 1 rfl).trans rfl; have hd2 := (cl_ HS 0 2 rfl).trans rfl; have ha0 := (cl_ HS 1 0 rfl).trans rfl))
  clear hd0 hd1 hd2 ha0
  replace HS := A0_ (show Sp w0 ([Res.blk gd #[.int .i64 d.f0, .int .i64 d.f1, .int .i64 d.f2] 94, Res.blk ga #[.int .i64 a] 3, Res.blk gf #[.pointer (some ⟨g, 0, none⟩)] 64, frBlk g gM Ap cp parts, frMemo gM parts] ++ rest) wc_ from HS.out)
  obtain ⟨gk, hg_⟩ : ∃ g_, g_ = (wc_).heap.size := ⟨_, rfl⟩; obtain ⟨wk, hw_⟩ : ∃ w_, w_ = (wc_).alloc (.cells #[.int .i64 a, .int .i64 b, .int .i64 d.f0, .int .i64 d.f1, .int .i64 d.f2] 147) := ⟨_, rfl⟩; (try rw [← hw_]); (try rw [← hg_]); have HS_ := A0_ (Sp.box HS.out #[.int .i64 a, .int .i64 b, .int .i64 d.f0, .int .i64 d.f1, .int .i64 d.f2] 147); rw [← hw_, ← hg_] at HS_; clear HS; have HS := HS_; clear HS_ hw_ hg_
  replace HS := A0_ (show Sp w0 ([Res.blk gk #[.int .i64 a, .int .i64 b, .int .i64 d.f0, .int .i64 d.f1, .int .i64 d.f2] 147, Res.blk gd #[.int .i64 d.f0, .int .i64 d.f1, .int .i64 d.f2] 94, Res.blk ga #[.int .i64 a] 3, Res.blk gf #[.pointer (some ⟨g, 0, none⟩)] 64, frBlk g gM Ap cp parts, frMemo gM parts] ++ rest) wk.drew from Sp.drew HS.out)
  rcases (Sp.memo HS.out (i := 5) rfl).look keyed_contact Try.underlying113 Try.underlying4 zero4 HKL.out with hrun | hrun
  ·rw [HR.out] at hrun
   refine start_ (n := 11) (S := fun w' => w'.cell? ⟨gf, 0, none⟩ = some (.pointer (some ⟨g, 0, none⟩)) ∧ w'.cell? ⟨g, 1, none⟩ = some (.map (some gM)) ∧ w'.cell? ⟨gk, 0, none⟩ = some (.int .i64 a) ∧ w'.cell? ⟨gk, 1, none⟩ = some (.int .i64 b) ∧ w'.cell? ⟨gk, 2, none⟩ = some (.int .i64 d.f0) ∧ w'.cell? ⟨gk, 3, none⟩ = some (.int .i64 d.f1) ∧ w'.cell? ⟨gk, 4, none⟩ = some (.int .i64 d.f2)) (ds := []) #[false, false, false, false, false, false, false, false, false, false, false] (by kernel_rfl) rfl rfl (⟨(cl_ HS 3 0 rfl).trans rfl, (cl_ HS 4 1 rfl).trans rfl, (cl_ HS 0 0 rfl).trans rfl, (cl_ HS 0 1 rfl).trans rfl, (cl_ HS 0 2 rfl).trans rfl, (cl_ HS 0 3 rfl).trans rfl, (cl_ HS 0 4 rfl).trans rfl⟩) (fun hHeld => ?_)
   refine with_tabW touchF.tab4 touchF.bits4 (fun HT_ HW_ => ?_)
   generalize wk.drew = wD at HS hHeld hrun ⊢
   refine tk_ 0 (some 21) ?_
   refine on_ 1 (some 22) ?_
   refine on_ 2 (some 23) ?_
   refine tk_ 3 (some 24) ?_
   refine tk_ 4 (some 25) ?_
   refine o1_ 5 (some 26) (fun K hK => ?_)
   refine event_step (v := .tuple #[.bool r, .bool true]) (w1 := wD) (by rfl) (by first | (go_simp; done) | (go_simp; rfl)) ?_
   refine hK.out _ _ (⟨(cl_ HS 3 0 rfl).trans rfl, (cl_ HS 4 1 rfl).trans rfl, (cl_ HS 0 0 rfl).trans rfl, (cl_ HS 0 1 rfl).trans rfl, (cl_ HS 0 2 rfl).trans rfl, (cl_ HS 0 3 rfl).trans rfl, (cl_ HS 0 4 rfl).trans rfl⟩) (fun hHeld => ?_)
   clear hK K
   refine nm_ (some 26) ?_
   refine on_ 6 (some 20) ?_
   refine on_ 7 (some 27) ?_
   refine on_ 8 (some 28) ?_
   refine on_ 9 (some 10) ?_
   refine on_ 10 (some 11) ?_
   refine dn_ ?_
   try clear hrun
   go_wp2
   go_ret
   exact ⟨rfl, Sp.tail (Sp.tail (Sp.tail (Sp.tail HS.out)))⟩
  ·skip
   refine start_ (n := 11) (S := fun w' => w'.cell? ⟨gf, 0, none⟩ = some (.pointer (some ⟨g, 0, none⟩)) ∧ w'.cell? ⟨g, 1, none⟩ = some (.map (some gM)) ∧ w'.cell? ⟨gk, 0, none⟩ = some (.int .i64 a) ∧ w'.cell? ⟨gk, 1, none⟩ = some (.int .i64 b) ∧ w'.cell? ⟨gk, 2, none⟩ = some (.int .i64 d.f0) ∧ w'.cell? ⟨gk, 3, none⟩ = some (.int .i64 d.f1) ∧ w'.cell? ⟨gk, 4, none⟩ = some (.int .i64 d.f2)) (ds := []) #[false, false, false, false, false, false, false, false, false, false, false] (by kernel_rfl) rfl rfl (⟨(cl_ HS 3 0 rfl).trans rfl, (cl_ HS 4 1 rfl).trans rfl, (cl_ HS 0 0 rfl).trans rfl, (cl_ HS 0 1 rfl).trans rfl, (cl_ HS 0 2 rfl).trans rfl, (cl_ HS 0 3 rfl).trans rfl, (cl_ HS 0 4 rfl).trans rfl⟩) (fun hHeld => ?_)
   refine with_tabW touchF.tab4 touchF.bits4 (fun HT_ HW_ => ?_)
   generalize wk.drew = wD at HS hHeld hrun ⊢
   refine tk_ 0 (some 21) ?_
   refine on_ 1 (some 22) ?_
   refine on_ 2 (some 23) ?_
   refine tk_ 3 (some 24) ?_
   refine tk_ 4 (some 25) ?_
   refine o1_ 5 (some 26) (fun K hK => ?_)
   refine event_step (v := .tuple #[.bool false, .bool false]) (w1 := wD) (by rfl) (by first | (go_simp; done) | (go_simp; rfl)) ?_
   refine hK.out _ _ (⟨(cl_ HS 3 0 rfl).trans rfl, (cl_ HS 4 1 rfl).trans rfl, (cl_ HS 0 0 rfl).trans rfl, (cl_ HS 0 1 rfl).trans rfl, (cl_ HS 0 2 rfl).trans rfl, (cl_ HS 0 3 rfl).trans rfl, (cl_ HS 0 4 rfl).trans rfl⟩) (fun hHeld => ?_)
   clear hK K
   refine nm_ (some 26) ?_
   refine on_ 6 (some 20) ?_
   refine on_ 7 (some 27) ?_
   refine on_ 8 (some 28) ?_
   refine on_ 9 (some 10) ?_
   refine on_ 10 (some 11) ?_
   refine dn_ ?_
   try clear hrun
   obtain ⟨adp, Ab, cb, eb, hx0, hx1, hx2⟩ := at_L3 (Kd.C_below HF.out.C HS.out.below) b HAB.out.2.1 HAB.out.2.2
   subst eb
   have hpb : rd_L3 parts b = partAt parts b := rfl
   rw [hpb] at hx0 hx1 hx2
   have q0 : (0 ≤ b) = True := eq_true HAB.out.2.1
   have q1 : (b < (parts.length : Int)) = True := eq_true HAB.out.2.2
   have HX2 := A0_ hx2
   have HC := A0_ (touchC_pred wD gf g ga gd (some adp) cp (.map (some gM)) parts a d ((cl_ HS 3 0 rfl).trans rfl) ((cl_ HS 4 0 rfl).trans rfl) ((cl_ HS 2 0 rfl).trans rfl) ((cl_ HS 1 0 rfl).trans rfl) ((cl_ HS 1 1 rfl).trans rfl) ((cl_ HS 1 2 rfl).trans rfl) (Kd.C_below HF.out.C HS.out.below) HAB.out.1 HF.out.sz)
   have hf0 := (cl_ HS 3 0 rfl).trans rfl
   have hg0 := (cl_ HS 4 0 rfl).trans rfl
   have HTM2 := A0_ (show (partAt parts b).any (fun c => (partAt parts a).contains (addC c d)) = r from HTM.out.symm)
   clear hx2 hpb hx1
   go_wp2_with (first
    | (go_at_call 74; refine (containsFunc_calls Ab cb (partAt parts b) _ _ _ _ HC.out HX2.out).mono ?_; rw [HTM2.out]; rintro e wF ⟨rfl, hb_⟩; have HS_ := A0_ (Sp.far HS.out hb_); clear HS; have HS := HS_; clear HS_ hb_ hf0 hg0 hx0))
   replace HS := A0_ (Sp.drew HS.out)
   obtain ⟨wU, hrun, hmU, hgU⟩ := (Sp.memo HS.out (i := 5) rfl).store keyed_contact Try.underlying113 Try.underlying4 HDL.out HDM.out HKL.out
   rw [HR.out] at hrun
   have HMU := A0_ hmU
   clear hmU
   refine start_ (n := 7) (S := fun w' => w'.cell? ⟨gf, 0, none⟩ = some (.pointer (some ⟨g, 0, none⟩)) ∧ w'.cell? ⟨g, 1, none⟩ = some (.map (some gM)) ∧ w'.cell? ⟨gk, 0, none⟩ = some (.int .i64 a) ∧ w'.cell? ⟨gk, 1, none⟩ = some (.int .i64 b) ∧ w'.cell? ⟨gk, 2, none⟩ = some (.int .i64 d.f0) ∧ w'.cell? ⟨gk, 3, none⟩ = some (.int .i64 d.f1) ∧ w'.cell? ⟨gk, 4, none⟩ = some (.int .i64 d.f2)) (ds := [6]) #[false, false, false, false, false, false, false] (by kernel_rfl) rfl rfl (⟨(cl_ HS 3 0 rfl).trans rfl, (cl_ HS 4 1 rfl).trans rfl, (cl_ HS 0 0 rfl).trans rfl, (cl_ HS 0 1 rfl).trans rfl, (cl_ HS 0 2 rfl).trans rfl, (cl_ HS 0 3 rfl).trans rfl, (cl_ HS 0 4 rfl).trans rfl⟩) (fun hHeld => ?_)
   refine with_tabW touchF.tab8 touchF.bits8 (fun HT_ HW_ => ?_)
   generalize wF.drew = wE at HS hHeld hrun hgU ⊢
   refine tk_ 0 (some 40) ?_
   refine on_ 1 (some 41) ?_
   refine on_ 2 (some 42) ?_
   refine tk_ 3 (some 43) ?_
   refine tk_ 4 (some 44) ?_
   refine on_ 5 (some 45) ?_
   refine ol_ 6 none (fun K hK => ?_)
   refine skip_ (w1 := wU) (by rfl) rfl (by first | (go_simp; done) | (go_simp; rfl)) ?_
   replace HS := A0_ (Sp.memoSet HS.out (i := 5) rfl HMU.out hgU)
   refine hK.out _ _ ?_
   clear hK K
   refine dn_ ?_
   try go_wp2
   go_ret
   exact ⟨rfl, Sp.tail (Sp.tail (Sp.tail (Sp.tail HS.out)))⟩
def Rds (w0 : World) (r : Res) (Ao : Option Addr) (offs : List Cb) : Prop := ∀ (fp : Nat → Prop) (w : World), Below w0.heap.size w0 w → r.P fp w → kC.C w Ao offs.length offs
theorem Rds.row {w0 : World} {Ao : Option Addr} {e base n c : Nat} {offs : List Cb} : Rds w0 (Res.row kC e base (.slice Ao n c) offs) Ao offs := fun fp w hb h => (Kd.R_reads' h).2.2
theorem Rds.take {w0 : World} {r : Res} {Ao : Option Addr} {offs : List Cb} (h : Rds w0 r Ao offs) (k : Nat) (hk : k ≤ offs.length) : Rds w0 r Ao (offs.take k) := fun fp w hb hp => Kd.C_take (h fp w hb hp) hk
theorem Sp.rds {w0 w : World} {rs : List Res} {i : Nat} {r : Res} {Ao : Option Addr} {offs : List Cb} (h : Sp w0 rs w) (hi : rs[i]? = some r) (hr : Rds w0 r Ao offs) : kC.C w Ao offs.length offs := by
 obtain ⟨fp, hp, _⟩ := h.get hi
 exact hr fp w h.below hp
abbrev oAt (offs : List Cb) (k : Nat) : Cb := offs.getD k ⟨0, 0, 0⟩
theorem all_next (p : Nat → Bool) (k : Nat) (h : (List.range k).all p = true) : (List.range (k + 1)).all p = p k := by
 rw [List.range_succ, List.all_append, h]
 simp
theorem all_no (p : Nat → Bool) (k n : Nat) (hk : k < n) (h : p k = false) : (List.range n).all p = false := by
 rw [Bool.eq_false_iff]
 intro hc
 rw [List.all_eq_true] at hc
 have := hc k (List.mem_range.2 hk)
 rw [h] at this
 cases this
set_option maxHeartbeats 4000000 in
set_option maxRecDepth 100000 in
theorem alone_calls (w0 : World) (Ap : Option Addr) (cp g gM : Nat) (parts : List (List Cb)) (hF : FrOk w0 Ap parts) (r : Res) (Ao : Option Addr) (co : Nat) (offs : List Cb) (hr : Rds w0 r Ao offs) (hlo : offs.length ≤ parts.length) (p : Int) (hp : 0 ≤ p ∧ p < (parts.length : Int)) (o : Cb) (rest : List Res) (w : World) (hs : Sp w0 ([frBlk g gM Ap cp parts, frMemo gM parts, r] ++ rest) w) :
  Calls Try.prog 83 #[.pointer (some ⟨g, 0, none⟩), .slice Ao offs.length co, .int .i64 p, vC o] w fun e w' => e = .returned (.bool (aloneP parts offs p o)) ∧ Sp w0 ([frBlk g gM Ap cp parts, frMemo gM parts, r] ++ rest) w' := by
 have hu69 := Try.underlying94
 have HS := A0_ hs
 have HF := A0_ hF
 have HRD := A0_ hr
 have HP := A0_ hp
 have HLO := A0_ hlo
 have HL8 := A0_ (Nat.le_trans hlo hF.len)
 clear hs hF hr hp hlo
 go_enter Try.func83, Try.ntmps83
 go_wp2_with (first
  | ((with_reducible refine gate_dst (N := 7) rfl ?_); refine be_ (N := 7) (cs := #[.int .i64 o.f0, .int .i64 o.f1, .int .i64 o.f2]) (t := 94) ?_; intro go hgb_ wb_ hcb_ hbb_; replace HS := A0_ (Sp.boxed HS.out hgb_ hcb_ hbb_); clear hgb_ hcb_ hbb_))
 replace HS := A0_ (show Sp w0 ([frBlk g gM Ap cp parts, frMemo gM parts, r, Res.blk go #[.int .i64 o.f0, .int .i64 o.f1, .int .i64 o.f2] 94] ++ rest) wb_ from Sp.arr (pre := [Res.blk go #[.int .i64 o.f0, .int .i64 o.f1, .int .i64 o.f2] 94, frBlk g gM Ap cp parts, frMemo gM parts, r]) (rest := rest) [1, 2, 3, 0] HS.out rfl rfl)
 go_loopg [13] (offs.length + 1) (fun kq v13 w' => ∃ (k : Nat), v13 = .int .i64 (k : Int) ∧ Aside0 (k ≤ offs.length ∧ kq + k = offs.length + 1 ∧ (List.range k).all (fun k => decide ((k : Int) = p) || !touchP parts k p (subC o (oAt offs k))) = true) ∧ Aside0 (Sp w0 ([frBlk g gM Ap cp parts, frMemo gM parts, r, Res.blk go #[.int .i64 o.f0, .int .i64 o.f1, .int .i64 o.f2] 94] ++ rest) w'))
 case atStart => exact ⟨0, rfl, ⟨by omega, by omega, by simp⟩, HS⟩
 case round =>
  clear HS
  obtain ⟨k, rfl, HX, HS⟩ := hrel
  obtain ⟨k1, rfl⟩ : ∃ k1, gk = k1 + 1 := ⟨gk - 1, by have := HX.out; omega⟩
  by_cases ck : k < offs.length
  ·have ck0 : decide (k < offs.length) = true := decide_eq_true ck
   have q0 : (0 ≤ (k : Int)) = True := eq_true (by omega)
   have q1 : ((k : Int) < (offs.length : Int)) = True := eq_true (by omega)
   obtain ⟨ad, e, hx0, hx1, hx2⟩ := at_T94 (Sp.rds HS.out (i := 2) rfl HRD.out) (k : Int) (by omega) (by omega)
   subst e
   have er : rd_T94 offs (k : Int) = oAt offs k := rfl
   rw [er] at hx0 hx1 hx2
   rw [Int.toNat_natCast] at hx0 hx1 hx2
   have HNX := A0_ (all_next (fun k => decide ((k : Int) = p) || !touchP parts k p (subC o (oAt offs k))) k HX.out.2.2)
   have HNO := A0_ (all_no (fun k => decide ((k : Int) = p) || !touchP parts k p (subC o (oAt offs k))) k offs.length ck)
   have HW := A0_ (wrap_succ k (by have := HL8.out; omega))
   have HKP := A0_ (show 0 ≤ (k : Int) ∧ (k : Int) < (parts.length : Int) by have := HLO.out; omega)
   obtain ⟨q, hq⟩ : ∃ q, q = oAt offs k := ⟨_, rfl⟩
   rw [← hq] at hx0 hx1 hx2 HNX HNO
   have ho0 := (blk_cell (blk_alloc (Sp.blk HS.out (i := 3) rfl).1 (.cells #[.int .i64 q.f0, .int .i64 q.f1, .int .i64 q.f2] 94)) 0).trans rfl
   have ho1 := (blk_cell (blk_alloc (Sp.blk HS.out (i := 3) rfl).1 (.cells #[.int .i64 q.f0, .int .i64 q.f1, .int .i64 q.f2] 94)) 1).trans rfl
   have ho2 := (blk_cell (blk_alloc (Sp.blk HS.out (i := 3) rfl).1 (.cells #[.int .i64 q.f0, .int .i64 q.f1, .int .i64 q.f2] 94)) 2).trans rfl
   clear er hq ck
   by_cases cp_ : (k : Int) = p
   ·have d0 : ((k : Int) != p) = false := by rw [bne_eq_false_iff_eq]; exact cp_
    have HN2 := A0_ (HNX.out.trans (by rw [decide_eq_true cp_, Bool.true_or]))
    clear HNO HNX cp_
    go_wp2
    go_roundg k1
    case measure => omega
    case rel =>
     rw [HW.out]
     exact ⟨k + 1, rfl, ⟨by have := of_decide_eq_true ck0; omega, by have := HX.out; omega, HN2.out⟩, ⟨Sp.alloc HS.out _⟩⟩
   ·have d0 : ((k : Int) != p) = true := by rw [bne_iff_ne]; exact cp_
    have e0 : decide ((k : Int) = p) = false := decide_eq_false cp_
    rw [e0] at HNX HNO
    clear cp_ e0
    have HTT : ∀ b, touchP parts (k : Int) p (subC o q) = b → Aside0 (∀ w2, Sp w0 ([frBlk g gM Ap cp parts, frMemo gM parts] ++ ([r, Res.blk go #[.int .i64 o.f0, .int .i64 o.f1, .int .i64 o.f2] 94] ++ rest)) w2 → Calls Try.prog 107 #[.pointer (some ⟨g, 0, none⟩), .int .i64 k, .int .i64 p, vC (subC o q)] w2 fun e w' => e = .returned (.bool b) ∧ Sp w0 ([frBlk g gM Ap cp parts, frMemo gM parts] ++ ([r, Res.blk go #[.int .i64 o.f0, .int .i64 o.f1, .int .i64 o.f2] 94] ++ rest)) w') := fun b hb => ⟨fun w2 hs => by rw [← hb]; exact touch_calls w0 Ap cp g gM parts HF.out (k : Int) p (subC o q) HKP.out HP.out _ w2 hs⟩
    cases ht : touchP parts (k : Int) p (subC o q) with
    | true =>
     rw [ht] at HNO
     have HT := HTT true ht
     have HN2 := A0_ (show aloneP parts offs p o = false from HNO.out rfl)
     clear ht HNO HNX HTT
     go_wp2_with (first
      | (go_at_call 99; replace HS := A0_ (Sp.alloc HS.out (.cells #[.int .i64 q.f0, .int .i64 q.f1, .int .i64 q.f2] 94)); refine (impl_minusCube.calls o.f0 o.f1 o.f2 q.f0 q.f1 q.f2 (subC o q).f0 (subC o q).f1 (subC o q).f2 _ rfl).mono ?_; rintro e wm_ ⟨rfl, hb_⟩; replace HS := A0_ (Sp.far HS.out hb_); clear hb_ hx0 hx1 hx2 ho0 ho1 ho2)
      | (go_at_call 107; refine (HT.out _ HS.out).mono ?_; rintro e wt_ ⟨rfl, hs_⟩; replace HS := A0_ (hs_); clear hs_))
     go_ret
     exact ⟨by rw [HN2.out]; rfl, Sp.out HS.out 3⟩
    | false =>
     rw [ht] at HNX
     have HT := HTT false ht
     have HN2 := A0_ (HNX.out.trans rfl)
     clear ht HNO HNX HTT
     go_wp2_with (first
      | (go_at_call 99; replace HS := A0_ (Sp.alloc HS.out (.cells #[.int .i64 q.f0, .int .i64 q.f1, .int .i64 q.f2] 94)); refine (impl_minusCube.calls o.f0 o.f1 o.f2 q.f0 q.f1 q.f2 (subC o q).f0 (subC o q).f1 (subC o q).f2 _ rfl).mono ?_; rintro e wm_ ⟨rfl, hb_⟩; replace HS := A0_ (Sp.far HS.out hb_); clear hb_ hx0 hx1 hx2 ho0 ho1 ho2)
      | (go_at_call 107; refine (HT.out _ HS.out).mono ?_; rintro e wt_ ⟨rfl, hs_⟩; replace HS := A0_ (hs_); clear hs_))
     go_roundg k1
     case measure => omega
     case rel =>
      rw [HW.out]
      exact ⟨k + 1, rfl, ⟨by have := of_decide_eq_true ck0; omega, by have := HX.out; omega, HN2.out⟩, HS⟩
  ·have ck0 : decide (k < offs.length) = false := decide_eq_false ck
   have HN2 := A0_ (show aloneP parts offs p o = true by
    have := HX.out.2.2
    rw [show k = offs.length by have := HX.out; omega] at this
    exact this)
   clear ck
   go_wp2
   go_ret
   exact ⟨by rw [HN2.out]; rfl, Sp.out HS.out 3⟩
def clearF.T4 : Bool × List (List Nat × List Nat) := (true, [([], []), ([], []), ([], []), ([1, 2], [1, 2]), ([], []), ([], []), ([0, 3, 4, 5], [0, 3, 4, 5]), ([6], [6])])
def clearF.B4 : List Nat := [0, 0, 0, 6, 0, 0, 63, 127]
theorem clearF.tab4 : rtab .any (opsOf Try.f77 4) = clearF.T4 := by kernel_rfl
theorem clearF.bits4 : waitsOk clearF.T4.2 clearF.B4 = true := by kernel_rfl
set_option maxHeartbeats 4000000 in
set_option maxRecDepth 100000 in
theorem clear_calls (w0 : World) (Ap : Option Addr) (cp g gM : Nat) (parts : List (List Cb)) (hF : FrOk w0 Ap parts) (r : Res) (Ao : Option Addr) (co : Nat) (offs : List Cb) (hr : Rds w0 r Ao offs) (hco : offs.length ≤ co) (hlo : offs.length ≤ parts.length) (rest : List Res) (w : World) (hs : Sp w0 ([frBlk g gM Ap cp parts, frMemo gM parts, r] ++ rest) w) :
  Calls Try.prog 77 #[.pointer (some ⟨g, 0, none⟩), .slice Ao offs.length co] w fun e w' => e = .returned (.bool (clearP parts offs)) ∧ Sp w0 ([frBlk g gM Ap cp parts, frMemo gM parts, r] ++ rest) w' := by
 have hu69 := Try.underlying94
 have HS := A0_ hs
 have HF := A0_ hF
 have HRD := A0_ hr
 have HLO := A0_ hlo
 have HCO := A0_ hco
 have HL8 := A0_ (Nat.le_trans hlo hF.len)
 clear hs hF hr hlo hco
 go_enter Try.func77, Try.ntmps77
 go_wp2
 go_loopg [9] (offs.length + 1) (fun kq v9 w' => ∃ (k : Nat), v9 = .int .i64 (k : Int) ∧ Aside0 (k ≤ offs.length ∧ kq + k = offs.length + 1 ∧ (List.range k).all (fun k => aloneP parts (offs.take k) k (oAt offs k)) = true) ∧ Aside0 (Sp w0 ([frBlk g gM Ap cp parts, frMemo gM parts, r] ++ rest) w'))
 case atStart => exact ⟨0, rfl, ⟨by omega, by omega, by simp⟩, HS⟩
 case round =>
  clear HS
  obtain ⟨k, rfl, HX, HS⟩ := hrel
  obtain ⟨k1, rfl⟩ : ∃ k1, gk = k1 + 1 := ⟨gk - 1, by have := HX.out; omega⟩
  by_cases ck : k < offs.length
  ·have ck0 : decide (k < offs.length) = true := decide_eq_true ck
   have q0 : (0 ≤ (k : Int)) = True := eq_true (by omega)
   have q1 : ((k : Int) < (offs.length : Int)) = True := eq_true (by omega)
   have q2 : (k ≤ co) = True := eq_true (by have := HCO.out; omega)
   obtain ⟨ad, e, hx0, hx1, hx2⟩ := at_T94 (Sp.rds HS.out (i := 2) rfl HRD.out) (k : Int) (by omega) (by omega)
   subst e
   have er : rd_T94 offs (k : Int) = oAt offs k := rfl
   rw [er] at hx0 hx1 hx2
   rw [Int.toNat_natCast] at hx0 hx1 hx2
   have HNX := A0_ (all_next (fun k => aloneP parts (offs.take k) k (oAt offs k)) k HX.out.2.2)
   have HNO := A0_ (all_no (fun k => aloneP parts (offs.take k) k (oAt offs k)) k offs.length ck)
   have HW := A0_ (wrap_succ k (by have := HL8.out; omega))
   obtain ⟨q, hq⟩ : ∃ q, q = oAt offs k := ⟨_, rfl⟩
   rw [← hq] at hx0 hx1 hx2 HNX HNO
   have hlt : (offs.take k).length = k := by rw [List.length_take]; omega
   have hal := fun BQ_ w2 hs => alone_calls w0 Ap cp g gM parts HF.out r (some ad) co (offs.take k) (Rds.take HRD.out k (by omega)) (by rw [hlt]; have := HLO.out; omega) (k : Int) (by have := HLO.out; omega) q ([BQ_] ++ rest) w2 hs
   rw [hlt] at hal
   clear er hq ck hlt
   go_wp2
   obtain ⟨gq, hg_⟩ : ∃ g_, g_ = (wr).heap.size := ⟨_, rfl⟩; obtain ⟨wq, hw_⟩ : ∃ w_, w_ = (wr).alloc (.cells #[.int .i64 q.f0, .int .i64 q.f1, .int .i64 q.f2] 94) := ⟨_, rfl⟩; (try rw [← hw_]); (try rw [← hg_]); have HS_ := A0_ (Sp.box HS.out #[.int .i64 q.f0, .int .i64 q.f1, .int .i64 q.f2] 94); rw [← hw_, ← hg_] at HS_; clear HS; have HS := HS_; clear HS_ hw_ hg_
   have HS_ := A0_ (show Sp w0 ([frBlk g gM Ap cp parts, frMemo gM parts, r, Res.blk gq #[.int .i64 q.f0, .int .i64 q.f1, .int .i64 q.f2] 94] ++ rest) wq.drew from Sp.drew (Sp.arr (pre := [Res.blk gq #[.int .i64 q.f0, .int .i64 q.f1, .int .i64 q.f2] 94, frBlk g gM Ap cp parts, frMemo gM parts, r]) (rest := rest) [1, 2, 3, 0] HS.out rfl rfl))
   clear HS hx0 hx1 hx2
   have HS := HS_
   clear HS_
   have hal := hal (Res.blk gq #[.int .i64 q.f0, .int .i64 q.f1, .int .i64 q.f2] 94)
   cases ht : aloneP parts (offs.take k) (k : Int) q with
   | false =>
    rw [ht] at hal HNO
    have HAL := A0_ hal
    have HN2 := A0_ (show clearP parts offs = false from HNO.out rfl)
    clear ht hal HNO HNX
    refine start_ (n := 8) (S := fun w' => w'.cell? ⟨gq, 0, none⟩ = some (.int .i64 q.f0) ∧ w'.cell? ⟨gq, 1, none⟩ = some (.int .i64 q.f1) ∧ w'.cell? ⟨gq, 2, none⟩ = some (.int .i64 q.f2)) (ds := []) #[false, false, false, false, false, false, false, false] (by kernel_rfl) rfl rfl (⟨(cl_ HS 3 0 rfl).trans rfl, (cl_ HS 3 1 rfl).trans rfl, (cl_ HS 3 2 rfl).trans rfl⟩) (fun hHeld => ?_)
    refine with_tabW clearF.tab4 clearF.bits4 (fun HT_ HW_ => ?_)
    generalize wq.drew = wD at HS hHeld ⊢
    refine on_ 0 (some 14) ?_
    refine on_ 1 (some 15) ?_
    refine on_ 2 (some 16) ?_
    refine on_ 3 (some 17) ?_
    refine on_ 4 (some 18) ?_
    refine tk_ 5 (some 19) ?_
    refine o1_ 6 (some 20) (fun K hK => ?_)
    refine gs_ Try.func83 #[.pointer (some ⟨g, 0, none⟩), .slice (some ad) k co, .int .i64 k, .agg #[.int .i64 q.f0, .int .i64 q.f1, .int .i64 q.f2]] ?_
    refine (HAL.out _ HS.out).mono ?_
    rintro e wA ⟨rfl, hs_⟩
    refine ⟨_, rfl, ?_⟩
    replace HS := A0_ (hs_)
    clear hs_
    refine hK.out _ _ (⟨(cl_ HS 3 0 rfl).trans rfl, (cl_ HS 3 1 rfl).trans rfl, (cl_ HS 3 2 rfl).trans rfl⟩) (fun hHeld => ?_)
    clear hK K
    refine nm_ (some 20) ?_
    refine on_ 7 (some 21) ?_
    refine dn_ ?_
    try go_wp2
    go_ret
    exact ⟨by rw [HN2.out]; rfl, Sp.out HS.out 3⟩
   | true =>
    rw [ht] at hal HNX
    have HAL := A0_ hal
    have HN2 := A0_ HNX.out
    clear ht hal HNO HNX
    refine start_ (n := 8) (S := fun w' => w'.cell? ⟨gq, 0, none⟩ = some (.int .i64 q.f0) ∧ w'.cell? ⟨gq, 1, none⟩ = some (.int .i64 q.f1) ∧ w'.cell? ⟨gq, 2, none⟩ = some (.int .i64 q.f2)) (ds := []) #[false, false, false, false, false, false, false, false] (by kernel_rfl) rfl rfl (⟨(cl_ HS 3 0 rfl).trans rfl, (cl_ HS 3 1 rfl).trans rfl, (cl_ HS 3 2 rfl).trans rfl⟩) (fun hHeld => ?_)
    refine with_tabW clearF.tab4 clearF.bits4 (fun HT_ HW_ => ?_)
    generalize wq.drew = wD at HS hHeld ⊢
    refine on_ 0 (some 14) ?_
    refine on_ 1 (some 15) ?_
    refine on_ 2 (some 16) ?_
    refine on_ 3 (some 17) ?_
    refine on_ 4 (some 18) ?_
    refine tk_ 5 (some 19) ?_
    refine o1_ 6 (some 20) (fun K hK => ?_)
    refine gs_ Try.func83 #[.pointer (some ⟨g, 0, none⟩), .slice (some ad) k co, .int .i64 k, .agg #[.int .i64 q.f0, .int .i64 q.f1, .int .i64 q.f2]] ?_
    refine (HAL.out _ HS.out).mono ?_
    rintro e wA ⟨rfl, hs_⟩
    refine ⟨_, rfl, ?_⟩
    replace HS := A0_ (hs_)
    clear hs_
    refine hK.out _ _ (⟨(cl_ HS 3 0 rfl).trans rfl, (cl_ HS 3 1 rfl).trans rfl, (cl_ HS 3 2 rfl).trans rfl⟩) (fun hHeld => ?_)
    clear hK K
    refine nm_ (some 20) ?_
    refine on_ 7 (some 21) ?_
    refine dn_ ?_
    try go_wp2
    go_roundg k1
    case measure => omega
    case rel =>
     rw [HW.out]
     exact ⟨k + 1, rfl, ⟨by have := of_decide_eq_true ck0; omega, by have := HX.out; omega, HN2.out⟩, ⟨Sp.out HS.out 3⟩⟩
  ·have ck0 : decide (k < offs.length) = false := decide_eq_false ck
   have HN2 := A0_ (show clearP parts offs = true by
    have := HX.out.2.2
    rw [show k = offs.length by have := HX.out; omega] at this
    exact this)
   clear ck
   go_wp2
   go_ret
   exact ⟨by rw [HN2.out]; rfl, HS.out⟩
set_option maxHeartbeats 1000000 in
set_option maxRecDepth 100000 in
theorem in12_pred (w : World) : PredC w 91 #[] (fun c => !inCb c (-12) 12) := by
 refine ⟨_, Try.func91, by kernel_rfl, by kernel_rfl, ?_⟩
 intro c w' hb
 have hu69 := Try.underlying94
 have HS := A0_ (Sp.start w')
 have HIN := A0_ (inCube_eq c (-12) 12)
 dsimp only
 generalize inCb c (-12) 12 = b at HIN ⊢
 clear hb
 show Calls Try.prog 91 #[vC c] w' _
 go_enter Try.func91, Try.ntmps91
 go_wp2_with (first
  | ((with_reducible refine gate_dst (N := 1) rfl ?_); refine be_ (N := 1) (cs := #[.int .i64 c.f0, .int .i64 c.f1, .int .i64 c.f2]) (t := 94) ?_; intro gc hgb_ wb_ hcb_ hbb_; replace HS := A0_ (Sp.boxed HS.out hgb_ hcb_ hbb_); clear hgb_ hcb_ hbb_; have hc0 := (cl_ HS 0 0 rfl).trans rfl; have hc1 := (cl_ HS 0 1 rfl).trans rfl; have hc2 := (cl_ HS 0 2 rfl).trans rfl)
  | (go_at_call 76; refine (impl_inCube.calls c.f0 c.f1 c.f2 (-12) 12 b _ HIN.out).mono ?_; rintro e wc_ ⟨rfl, hb_⟩; replace HS := A0_ (Sp.far HS.out hb_); clear hb_ hc0 hc1 hc2))
 go_ret
 exact ⟨rfl, HS.out.below⟩
set_option maxHeartbeats 4000000 in
set_option maxRecDepth 100000 in
theorem areOff_calls (w0 : World) (Ap : Option Addr) (cp g gM : Nat) (parts : List (List Cb)) (hF : FrOk w0 Ap parts) (hne : 1 ≤ parts.length) (r : Res) (Ao : Option Addr) (co : Nat) (offs : List Cb) (hr : Rds w0 r Ao offs) (hco : offs.length ≤ co) (rest : List Res) (w : World) (hs : Sp w0 ([frBlk g gM Ap cp parts, frMemo gM parts, r] ++ rest) w) :
  Calls Try.prog 60 #[.pointer (some ⟨g, 0, none⟩), .slice Ao offs.length co] w fun e w' => e = .returned (.bool (areOffP parts offs)) ∧ Sp w0 ([frBlk g gM Ap cp parts, frMemo gM parts, r] ++ rest) w' := by
 have hu69 := Try.underlying94
 have HS := A0_ hs
 have HF := A0_ hF
 have HRD := A0_ hr
 have HCO := A0_ hco
 have HL8 := A0_ hF.len
 have HNE := A0_ hne
 clear hs hF hr hco hne
 by_cases cl : offs.length = parts.length
 ·have c0 : ((offs.length : Int) != (parts.length : Int)) = false := by rw [bne_eq_false_iff_eq]; omega
  have HEQ := A0_ cl
  have HC := A0_ (Sp.rds HS.out (i := 2) rfl HRD.out)
  obtain ⟨ad, e, hx0, hx1, hx2⟩ := at_T94 HC.out 0 (by omega) (by have := HNE.out; omega)
  subst e
  have er : rd_T94 offs 0 = oAt offs 0 := rfl
  rw [er] at hx0 hx1 hx2
  simp only [Int.toNat_zero, Nat.zero_mul, Nat.zero_add] at hx0 hx1 hx2
  rw [show ad.add 0 = ad by simp [Addr.add]] at hx0 hx1 hx2
  have hg0 : w.cell? ⟨g, 0, none⟩ = some (.slice Ap parts.length cp) := (cl_ HS 0 0 rfl).trans rfl
  have q1 : ((0 : Int) < (offs.length : Int)) = True := eq_true (by have := HNE.out; omega)
  have q2 : (0 < offs.length) = True := eq_true (by have := HNE.out; omega)
  have HO0 := A0_ (show areOffP parts offs = (decide (oAt offs 0 = ⟨0, 0, 0⟩) && (offs.all (fun c => inCb c (-12) 12) && clearP parts offs)) by unfold areOffP; rw [decide_eq_true cl, Bool.true_and])
  have HZ := A0_ (eq_cb (oAt offs 0) ⟨0, 0, 0⟩)
  have HCF := A0_ (containsFunc_calls (some ad) co offs w _ #[] _ (in12_pred w) HC.out)
  obtain ⟨q, hq⟩ : ∃ q, q = oAt offs 0 := ⟨_, rfl⟩
  rw [← hq] at hx0 hx1 hx2 HO0 HZ
  clear cl er hq
  cases hz : decide (q = ⟨0, 0, 0⟩) with
  | false =>
   rw [hz] at HZ HO0
   have HN := A0_ (show areOffP parts offs = false from HO0.out)
   have hd : q.f0 ≠ 0 ∨ (q.f0 = 0 ∧ q.f1 ≠ 0) ∨ (q.f0 = 0 ∧ q.f1 = 0 ∧ q.f2 ≠ 0) := by
    have h := of_decide_eq_false hz
    rcases q with ⟨q0, q1, q2⟩
    by_cases e0 : q0 = 0
    ·by_cases e1 : q1 = 0
     ·refine .inr (.inr ⟨e0, e1, fun e2 => h ?_⟩)
      subst e0 e1
      simp only at e2
      subst e2
      rfl
     ·exact .inr (.inl ⟨e0, e1⟩)
    ·exact .inl e0
   clear hz HZ HO0 HCF
   rcases hd with h0 | ⟨h0, h1⟩ | ⟨h0, h1, h2⟩
   ·have z0 : (q.f0 = 0) = False := eq_false h0
    have z0' : (q.f0 == 0) = false := by rw [beq_eq_false_iff_ne]; exact h0
    clear h0
    go_enter Try.func60, Try.ntmps60
    go_wp2
    go_ret
    exact ⟨by rw [HN.out]; rfl, HS.out⟩
   ·rw [h0] at hx0
    have z1 : (q.f1 = 0) = False := eq_false h1
    have z1' : (q.f1 == 0) = false := by rw [beq_eq_false_iff_ne]; exact h1
    clear h0 h1
    go_enter Try.func60, Try.ntmps60
    go_wp2
    go_ret
    exact ⟨by rw [HN.out]; rfl, HS.out⟩
   ·rw [h0] at hx0
    rw [h1] at hx1
    have z2 : (q.f2 = 0) = False := eq_false h2
    have z2' : (q.f2 == 0) = false := by rw [beq_eq_false_iff_ne]; exact h2
    clear h0 h1 h2
    go_enter Try.func60, Try.ntmps60
    go_wp2
    go_ret
    exact ⟨by rw [HN.out]; rfl, HS.out⟩
  | true =>
   rw [hz] at HZ HO0
   obtain rfl := of_decide_eq_true hz
   cases ha : offs.any (fun c => !inCb c (-12) 12) with
   | true =>
    rw [ha] at HCF
    have HN := A0_ (show areOffP parts offs = false by
     rw [HO0.out]
     rw [List.any_eq_true] at ha
     obtain ⟨c, hc, hn⟩ := ha
     have : offs.all (fun c => inCb c (-12) 12) = false := by
      rw [Bool.eq_false_iff]
      intro h
      rw [List.all_eq_true] at h
      rw [h c hc] at hn
      cases hn
     rw [this]
     rfl)
    clear hz HZ HO0 ha
    go_enter Try.func60, Try.ntmps60
    go_wp2_with (first
     | (go_at_call 74; refine (HCF.out).mono ?_; rintro e wc_ ⟨rfl, hb_⟩; replace HS := A0_ (Sp.far HS.out hb_); clear hb_ hx0 hx1 hx2 hg0))
    go_ret
    exact ⟨by rw [HN.out]; rfl, HS.out⟩
   | false =>
    rw [ha] at HCF
    have HN := A0_ (show areOffP parts offs = clearP parts offs by
     rw [HO0.out]
     have : offs.all (fun c => inCb c (-12) 12) = true := by
      rw [List.all_eq_true]
      intro c hc
      rw [List.any_eq_false] at ha
      have := ha c hc
      simpa using this
     rw [this]
     rfl)
    have HCL := A0_ (fun w2 hs => clear_calls w0 Ap cp g gM parts HF.out r (some ad) co offs HRD.out HCO.out (by rw [HEQ.out]; exact Nat.le_refl _) rest w2 hs)
    clear hz HZ HO0 ha
    rw [HN.out]
    go_enter Try.func60, Try.ntmps60
    go_wp2_with (first
     | (go_at_call 74; refine (HCF.out).mono ?_; rintro e wc_ ⟨rfl, hb_⟩; replace HS := A0_ (Sp.far HS.out hb_); clear hb_ hx0 hx1 hx2 hg0)
     | (go_at_call 77; refine (HCL.out _ HS.out).mono ?_; rintro e wt_ ⟨rfl, hs_⟩; replace HS := A0_ (hs_); clear hs_))
    go_ret
    exact ⟨rfl, HS.out⟩
 ·have c0 : ((offs.length : Int) != (parts.length : Int)) = true := by rw [bne_iff_ne]; omega
  have HN := A0_ (show areOffP parts offs = false by unfold areOffP; rw [decide_eq_false cl]; rfl)
  have hg0 : w.cell? ⟨g, 0, none⟩ = some (.slice Ap parts.length cp) := (cl_ HS 0 0 rfl).trans rfl
  clear cl
  go_enter Try.func60, Try.ntmps60
  go_wp2
  go_ret
  exact ⟨by rw [HN.out]; rfl, HS.out⟩
set_option maxHeartbeats 2000000 in
set_option maxRecDepth 100000 in
theorem newFrame_calls (w0 : World) (Ap : Option Addr) (cp : Nat) (parts : List (List Cb)) (rest : List Res) (w : World) (hs : Sp w0 rest w) :
  Calls Try.prog 50 #[.agg #[.slice Ap parts.length cp]] w fun e w' => ∃ g gM, e = .returned (.pointer (some ⟨g, 0, none⟩)) ∧ Sp w0 ([frBlk g gM Ap cp parts, frMemo gM parts] ++ rest) w' := by
 have hu32 := Try.underlying26
 have hu130 := Try.underlying115
 have hmk : ∀ w, (Instr.makeMap 113 none).run Try.prog w = .ok (.map (some w.heap.size)) (w.alloc (.map #[] 0)) := fun w => run_makeMap _ w
 have HS := A0_ hs
 clear hs
 go_enter Try.func50, Try.ntmps50
 go_wp2_with (first
  | ((with_reducible refine gate_dst (N := 1) rfl ?_); refine be_ (N := 1) (cs := #[.slice Ap parts.length cp]) (t := 26) ?_; intro ga hgb_ wb_ hcb_ hbb_; replace HS := A0_ (Sp.boxed HS.out hgb_ hcb_ hbb_); clear hgb_ hcb_ hbb_; have ha0 := (cl_ HS 0 0 rfl).trans rfl)
  | ((with_reducible refine gate_dst (N := 7) rfl ?_); obtain ⟨gM, hg_⟩ : ∃ g_, g_ = (wb_).heap.size := ⟨_, rfl⟩; obtain ⟨wM, hw_⟩ : ∃ w_, w_ = (wb_).alloc (.map #[] 0) := ⟨_, rfl⟩; (try rw [← hw_]); (try rw [← hg_]); have HS_ := A0_ (Sp.memoMade HS.out rfl (below_alloc (Below.refl _ _) (.map #[] 0)) (Memo.made (wb_) Try.prog tContact 4 (askP parts) (dom7 parts.length))); rw [← hw_, ← hg_] at HS_; clear HS; have HS := HS_; clear HS_ hw_ hg_; refine be_ (N := 7) (cs := #[.slice Ap parts.length cp, .map (some gM)]) (t := 115) ?_; intro gf hgb_ wb_ hcb_ hbb_; replace HS := A0_ (Sp.boxed HS.out hgb_ hcb_ hbb_); clear hgb_ hcb_ hbb_; clear ha0))
 go_ret
 exact ⟨gf, gM, rfl, Sp.out HS.out 2⟩
set_option maxHeartbeats 2000000 in
set_option maxRecDepth 100000 in
theorem vectorOf_calls (m : Int) (hm : 0 ≤ m ∧ m < 6) (w : World) :
  Calls Try.prog 82 #[.int .i64 m] w fun e w' => e = .returned (vC (vecP m)) ∧ Below w.heap.size w w' := by
 have hu69 := Try.underlying94
 have hu153 := Try.underlying135
 obtain h | h | h | h | h | h : m = 0 ∨ m = 1 ∨ m = 2 ∨ m = 3 ∨ m = 4 ∨ m = 5 := by omega
 all_goals
  subst h
  clear hm
  go_enter Try.func82, Try.ntmps82
  go_wp2
  refine bodyPost_ret (results_cell_row rfl _ _ w.heap.size 94 _ (0, 0) _ rfl (Sp.blk (Sp.alloc (Sp.box (Sp.start w) _ _) _) (i := 0) rfl).1 Try.underlying94 rfl (by kernel_rfl)) rfl ?_
  exact ⟨rfl, (Sp.alloc (Sp.box (Sp.start w) _ _) _).below⟩
theorem u64_len (n : Nat) (h : n ≤ 8) : (IntKind.u64.wrap (n : Int)).toNat = n := by
 obtain h | h | h | h | h | h | h | h | h : n = 0 ∨ n = 1 ∨ n = 2 ∨ n = 3 ∨ n = 4 ∨ n = 5 ∨ n = 6 ∨ n = 7 ∨ n = 8 := by omega
 all_goals subst h; decide
theorem pow_le8 (n : Nat) (h : n ≤ 8) : 2 ^ n ≤ 256 := by
 have := Nat.pow_le_pow_right (show 0 < 2 by omega) h
 omega
theorem pow_int (n : Nat) : (2 : Int) ^ n = ((2 ^ n : Nat) : Int) := by simp
theorem set_of (m : Int) (h0 : 6 ≤ m) (h1 : m ≤ 9223372036854775807) : wrap64 (m.tdiv 6) = ((m.toNat / 6 : Nat) : Int) := by
 obtain ⟨k, rfl⟩ : ∃ k : Nat, m = k := ⟨m.toNat, by omega⟩
 rw [show ((k : Int)).tdiv 6 = ((k / 6 : Nat) : Int) from rfl, wrap_id (by omega) (by omega)]
 simp
end Go.Proofs.Ytcobnlilmihjfaa.A
/- A cell of a row of one's own is written, over separate resources. -/
namespace Go.Proofs.YtcobnlilmihjfaaW.PrintMore
open Go.RowKit Go.Proofs.YtcobnlilmihjfaaW.PrintWords Go.Proofs.YtcobnlilmihjfaaW.PrintLast
set_option linter.unusedVariables false
section
variable {P : Program} {w0 w : World} {rs : List Res} {i : Nat} {α : Type} {d : Kd α} {e g n cap : Nat} {xs : List α}
theorem Sp.rowSet (h : Sp w0 rs w) (hi : rs[i]? = some (Res.row d e w0.heap.size (.slice (some ⟨g, 0, none⟩) n cap) xs)) (k : Nat) (hk : k < n) (x' : α) (seg : List Value) (hl : seg.length = d.sz) (hM : ∀ okp, d.M w w0.heap.size okp x' seg) :
  Sp w0 (rs.set i (Res.row d e w0.heap.size (.slice (some ⟨g, 0, none⟩) n cap) (xs.set k x'))) (w.setCells g (k * d.sz) seg) := by
 obtain ⟨fp, ho, hf, hc⟩ := Sp.row h hi
 obtain ⟨c, hcl, _, hcc, _⟩ := Kd.R_elem ho x' (k : Int) (by omega) (by omega)
 obtain ⟨hR, hg⟩ := Kd.R_seg ho (k : Int) (by omega) (by omega) (c := c) (seg := seg) (j := 0) (x' := x') (okp := fun _ => False) hcl hcc (by omega) (by
  have e1 : c.take 0 ++ seg ++ c.drop (0 + seg.length) = seg := by
   rw [Nat.zero_add, hl, ← hcl, List.drop_length]; simp
  rw [e1]
  exact hM _) (fun _ h => h.elim)
 rw [Int.toNat_natCast, Nat.add_zero] at hR hg
 exact hc _ _ _ hR hg
theorem Sp.rowStore (h : Sp w0 rs w) (hi : rs[i]? = some (Res.row d e w0.heap.size (.slice (some ⟨g, 0, none⟩) n cap) xs)) (k : Nat) (hk : k < n) (t : TypeId) (u : Value) (seg : List Value) (hl : seg.length = d.sz) (hu : u.cells.toList = seg) (ht : (P.info? t).map (·.size) = some seg.length) (h1 : ∀ q ∈ seg, q.oneCell' = true) :
  (Instr.storeAt t (.pointer (some ⟨g, k * d.sz, none⟩)) u).run P w = .ok () (w.setCells g (k * d.sz) seg) := by
 obtain ⟨fp, ho, hf, hc⟩ := Sp.row h hi
 have hnx : n = xs.length := (Kd.R_reads' ho).1
 obtain ⟨_, inner, hown, hr⟩ := ho
 rcases hown.2 with ⟨hv, _⟩ | ⟨g', cap', cur, hv, hb, hh, hnc, hcm, hcs, _⟩
 ·cases hv
 injection hv with ha _ hc
 injection ha with ha
 injection ha with hg'
 subst hg'; subst hc
 refine run_store_run t u seg hh hu ht ?_ h1
 have h2 : k * d.sz + d.sz ≤ n * d.sz := by rw [← Nat.succ_mul]; exact Nat.mul_le_mul_right _ hk
 have h3 : n * d.sz ≤ cap * d.sz := Nat.mul_le_mul_right _ (by omega)
 omega
theorem Sp.rowHome {ad : Addr} (h : Sp w0 rs w) {base : Nat} (hi : rs[i]? = some (Res.row d e base (.slice (some ad) n cap) xs)) (k : Nat) (hk : k < n) : ad = ⟨ad.block, 0, none⟩ := by
 obtain ⟨fp, hp, _⟩ := h.get hi
 have hn : n = xs.length := (Kd.R_reads' hp).1
 obtain ⟨g, c, hv, _⟩ := Kd.R_form hp (by omega)
 injection hv with ha _ _
 injection ha with ha
 rw [ha]
theorem Sp.rowSetA {ad : Addr} (h : Sp w0 rs w) (hi : rs[i]? = some (Res.row d e w0.heap.size (.slice (some ad) n cap) xs)) (k : Nat) (hk : k < n) (x' : α) (seg : List Value) (hl : seg.length = d.sz) (hM : ∀ okp, d.M w w0.heap.size okp x' seg) :
  Sp w0 (rs.set i (Res.row d e w0.heap.size (.slice (some ad) n cap) (xs.set k x'))) (w.setCells ad.block (k * d.sz) seg) := by
 have ha := h.rowHome hi k hk
 obtain ⟨g, hg⟩ : ∃ g, g = ad.block := ⟨_, rfl⟩
 rw [← hg] at ha ⊢
 subst ha
 exact h.rowSet hi k hk x' seg hl hM
theorem Sp.rowStoreA {ad : Addr} (h : Sp w0 rs w) (hi : rs[i]? = some (Res.row d e w0.heap.size (.slice (some ad) n cap) xs)) (k : Nat) (hk : k < n) (t : TypeId) (u : Value) (seg : List Value) (hl : seg.length = d.sz) (hu : u.cells.toList = seg) (ht : (P.info? t).map (·.size) = some seg.length) (h1 : ∀ q ∈ seg, q.oneCell' = true) :
  (Instr.storeAt t (.pointer (some (ad.add (k * d.sz)))) u).run P w = .ok () (w.setCells ad.block (k * d.sz) seg) := by
 have ha := h.rowHome hi k hk
 obtain ⟨g, hg⟩ : ∃ g, g = ad.block := ⟨_, rfl⟩
 rw [← hg] at ha ⊢
 subst ha
 have e1 : (⟨g, 0, none⟩ : Addr).add (k * d.sz) = ⟨g, k * d.sz, none⟩ := by
  unfold Addr.add
  by_cases c : k * d.sz = 0
  ·simp [c]
  ·simp [c]
 rw [e1]
 exact h.rowStore hi k hk t u seg hl hu ht h1
end
theorem exec_store {P : Program} {a : Act} {o : Oper} {w w1 : World} {t : TypeId} {p x : Operand} {v u : Value} (ho : o.op = .store t p x) (hp : a.eval p = v) (hx : a.eval x = u) (hrun : (Instr.storeAt t v u).run P w = .ok () w1) : (execOp a.eval o).run P w = .ok .skip w1 := by
 unfold execOp
 simp only [ho, hp, hx, Sem.run_bind, Sem.run_pure, Result.andThen_ok, hrun]
end Go.Proofs.YtcobnlilmihjfaaW.PrintMore

namespace Go.Proofs.Ytcobnlilmihjfaa.A
open Go.RowKit Go.Proofs.YtcobnlilmihjfaaW.PrintWords Go.Proofs.YtcobnlilmihjfaaW.PrintLast Go.Proofs.YtcobnlilmihjfaaW.PrintMore
set_option linter.unusedVariables false
set_option linter.unusedSimpArgs false
theorem u64_small (k : Nat) (h : k ≤ 8) : (IntKind.u64.wrap (k : Int)).toNat = k := u64_len k h
theorem bit_of (m : Int) (k : Nat) (h6 : 6 ≤ m) (hm : m ≤ 9223372036854775807) (hk : k ≤ 8) (b : Bool) (hb : (m.toNat / 6).testBit k = b) : bits .and .i64 (wrap64 (m.tdiv 6) / 2 ^ min (IntKind.u64.wrap (k : Int)).toNat 64) 1 = if b then 1 else 0 := by
 rw [set_of m h6 hm, u64_small k hk, Nat.min_eq_left (by omega), pow_int]
 have hlt : m.toNat / 6 < 2 ^ 63 := by
  have : (2 : Nat) ^ 63 = 9223372036854775808 := by decide
  omega
 generalize m.toNat / 6 = s at hb hlt ⊢
 have e : ((s : Nat) : Int) / ((2 ^ k : Nat) : Int) = ((s / 2 ^ k : Nat) : Int) := by simp
 rw [e]
 have hlt2 : s / 2 ^ k < 2 ^ 63 := Nat.lt_of_le_of_lt (Nat.div_le_self _ _) hlt
 rw [Nat.testBit_eq_decide_div_mod_eq] at hb
 generalize s / 2 ^ k = q at hb hlt2 ⊢
 have hbm := bits_mask .i64 63 (by decide) (fun n h0 h1 => by
  have : (2 : Int) ^ 63 = 9223372036854775808 := by decide
  rw [IntKind.wrap_i64]
  omega) 1 (by decide) (q : Int) (Int.natCast_nonneg _) (by exact_mod_cast hlt2)
 have e1 : ((2 : Int) ^ 1 - 1) = 1 := by decide
 rw [e1] at hbm
 rw [hbm]
 cases b with
 | false => simp at hb; simp; omega
 | true => simp at hb; simp; omega
def afterF.T9 : Bool × List (List Nat × List Nat) := (true, [([], []), ([], []), ([], []), ([], []), ([2, 3], [2, 3]), ([4], [4]), ([], []), ([6], [6]), ([7], [7]), ([5, 8, 8], [5, 8]), ([0, 1, 0, 1, 2, 3, 4, 5, 6, 7, 8, 9], [0, 1]), ([10, 9, 9, 0, 1, 2, 3, 4, 5, 6, 7, 8, 9], [9, 10])])
def afterF.B9 : List Nat := [0, 0, 0, 0, 12, 28, 0, 64, 192, 508, 1023, 2047]
theorem afterF.tab9 : rtab .any (opsOf Try.f79 9) = afterF.T9 := by kernel_rfl
theorem afterF.bits9 : waitsOk afterF.T9.2 afterF.B9 = true := by kernel_rfl
def movesK (parts : List (List Cb)) (offs : List Cb) (m : Nat) : List Int := ((List.range m).filter fun m : Nat => decide (12 ≤ m) && (isMv parts.length (m : Int) && possP parts offs (m : Int))).map fun (m : Nat) => (m : Int)
theorem movesK_len (parts : List (List Cb)) (offs : List Cb) (m : Nat) : (movesK parts offs m).length ≤ m := by
 unfold movesK
 rw [List.length_map]
 refine Nat.le_trans (List.length_filter_le _ _) ?_
 rw [List.length_range]
 exact Nat.le_refl _
theorem movesK_succ (parts : List (List Cb)) (offs : List Cb) (m : Nat) (h : 12 ≤ m) : movesK parts offs (m + 1) = movesK parts offs m ++ (if (isMv parts.length (m : Int) && possP parts offs (m : Int)) = true then [(m : Int)] else []) := by
 unfold movesK
 rw [List.range_succ, List.filter_append, List.map_append]
 congr 1
 by_cases c : (isMv parts.length (m : Int) && possP parts offs (m : Int)) = true
 ·rw [if_pos c, List.filter_cons_of_pos (by rw [decide_eq_true h, c]; rfl)]; rfl
 ·rw [if_neg c, List.filter_cons_of_neg (by rw [decide_eq_true h, Bool.true_and]; exact c)]; rfl
theorem pow6_len (n : Nat) (h : n ≤ 8) : wrap64 (6 * 2 ^ min (IntKind.u64.wrap (n : Int)).toNat 64) = ((6 * 2 ^ n : Nat) : Int) := by
 rw [u64_len n h, Nat.min_eq_left (by omega), pow_int]
 have := pow_le8 n h
 generalize 2 ^ n = N at this ⊢
 rw [wrap_id (by omega) (by omega)]
 simp
abbrev kI : Kd Int := Kd.int .i64
end Go.Proofs.Ytcobnlilmihjfaa.A
/- A map to bools that is used as a set, as a resource. -/
namespace Go.Proofs.YtcobnlilmihjfaaW.PrintMore
open Go.RowKit Go.Proofs.YtcobnlilmihjfaaW.PrintWords
open Go.Maps (Keyed has size Tidy)
open Go.WideShapes (sorted_perm)
set_option linter.unusedVariables false
section
variable {P : Program} {k e t : TypeId} {ι : Type} {kv : ι → Value} {ok : ι → Prop} {f : ι → Bool} {m : Nat}
def SetM (P : Program) (k e : TypeId) (kv : ι → Value) (ok : ι → Prop) (f : ι → Bool) (m b : Nat) (w : World) : Prop :=
 ∃ (n : Nat) (D : DataW Unit), w.ownsMap P k (plainElem P e) b n D ∧ n ≤ m ∧ ∀ i, ok i → ∀ kl, keyOf P k (kv i) = some kl → D.atKey kl (.lit (.bool false)) = .lit (.bool (f i))
theorem SetM.made (w : World) (P : Program) (k e : TypeId) (kv : ι → Value) (ok : ι → Prop) : SetM P k e kv ok (fun _ => false) 0 w.heap.size (w.alloc (.map #[] 0)) :=
 ⟨0, .map [], World.ownsMap_made _ _ _ _, Nat.le_refl _, fun i _ kl h => Maps.atKey_of_not_has (D := .map []) (k := kl) (by simp [has]) _⟩
theorem SetM.move {b : Nat} {w w' : World} (h : SetM P k e kv ok f m b w) (hb : w'.heap[b]? = w.heap[b]?) : SetM P k e kv ok f m b w' := by
 obtain ⟨n, D, ⟨es, clock, h1, h2⟩, h3⟩ := h
 exact ⟨n, D, ⟨es, clock, hb.trans h1, h2⟩, h3⟩
theorem SetM.lt {b : Nat} {w : World} (h : SetM P k e kv ok f m b w) : b < w.heap.size := by
 obtain ⟨n, D, h1, _⟩ := h
 exact h1.lt
theorem SetM.look {b : Nat} {w : World} (h : SetM P k e kv ok f m b w) (K : Keyed P k) (ht : P.underlying t = some (.map k e)) (he : P.underlying e = some .bool) (hz : ∀ w, (zeroValue e).run P w = .ok (.bool false) w) {i : ι} (hi : ok i) {kl : Lit} (hkey : keyOf P k (kv i) = some kl) :
  (Instr.lookup t (.map (some b)) (kv i) false).run P w = .ok (.bool (f i)) w := by
 obtain ⟨n, D, h1, h2, h3⟩ := h
 obtain ⟨v, ps, hrun, hv⟩ := h1.lookup K ht (hz w) (plainElem_bool he false) hkey
 obtain ⟨x, rfl, hx⟩ := plainElem_bool_inv he hv
 injection hx with hx _
 rw [h3 i hi kl hkey] at hx
 injection hx with hx
 injection hx with hx
 subst hx
 exact hrun
theorem SetM.store {b : Nat} {w : World} (h : SetM P k e kv ok f m b w) (K : Keyed P k) (ht : P.underlying t = some (.map k e)) (he : P.underlying e = some .bool) (hlen : m < maxLen) {i : ι} (hi : ok i) {kl : Lit} (hkey : keyOf P k (kv i) = some kl) (f' : ι → Bool) (h1' : f' i = true) (h2' : ∀ j, ok j → j ≠ i → f' j = f j) (hinj : ∀ j, ok j → kv j = kv i → j = i) :
  ∃ w', (Instr.mapUpdate t (.map (some b)) (kv i) (.bool true)).run P w = .ok () w' ∧ SetM P k e kv ok f' (m + 1) b w' ∧ w.grownBy w' (some b) := by
 obtain ⟨n, D, h1, h2, h3⟩ := h
 obtain ⟨w', hrun, h4, h5⟩ := h1.update K ht (by omega) hkey (plainElem_bool he true)
 have hm := h1.isMap
 have hik := K.key hkey
 refine ⟨w', hrun, ⟨n + 1, _, h4, by omega, fun j hj kl' hk' => ?_⟩, h5⟩
 by_cases c : kl' = kl
 ·subst c
  have := hinj j hj (K.inj hk' hkey)
  subst this
  rw [h1']
  exact Maps.atKey_put_same hm hik _ _
 ·have hne : j ≠ i := fun e => by subst e; rw [hk'] at hkey; injection hkey with h; exact c h
  rw [h2' j hj hne]
  exact (Maps.atKey_put_other c _ _).trans (h3 j hj kl' hk')
end
end Go.Proofs.YtcobnlilmihjfaaW.PrintMore


namespace Go.Proofs.Ytcobnlilmihjfaa.A
open Go.RowKit Go.Proofs.YtcobnlilmihjfaaW.PrintWords Go.Proofs.YtcobnlilmihjfaaW.PrintLast Go.Proofs.YtcobnlilmihjfaaW.PrintMore
set_option linter.unusedVariables false
set_option linter.unusedSimpArgs false
structure RawSt where
 A : Option Addr
 n : Nat
 c : Nat
 src : Int
 mv : Int
abbrev slV (s : Option Addr × Nat × Nat) : Value := .slice s.1 s.2.1 s.2.2
abbrev kSl : Kd (Option Addr × Nat × Nat) := Kd.scalar slV (fun _ => rfl)
instance instRawSt : Inhabited RawSt := ⟨⟨none, 0, 0, 0, 0⟩⟩
abbrev zerosC (n : Nat) : List Cb := List.replicate n ⟨0, 0, 0⟩
theorem zeros_at (n i : Nat) : oAt (zerosC n) i = ⟨0, 0, 0⟩ := by
 by_cases c : i < n <;> simp [oAt, List.getD_eq_getElem?_getD, c]
def newTakingF.T1 : Bool × List (List Nat × List Nat) := (true, [([], []), ([0], [0]), ([], []), ([], []), ([2, 3], [2, 3]), ([2, 3, 4], [2]), ([1, 5], [1, 5]), ([6], [6]), ([7, 1, 0, 1, 2, 3, 4, 5, 6, 7], [7])])
def newTakingF.B1 : List Nat := [0, 1, 0, 0, 12, 28, 63, 127, 255]
theorem newTakingF.tab1 : rtab .any (opsOf Try.f44 1) = newTakingF.T1 := by kernel_rfl
theorem newTakingF.bits1 : waitsOk newTakingF.T1.2 newTakingF.B1 = true := by kernel_rfl
end Go.Proofs.Ytcobnlilmihjfaa.A

namespace Go.Proofs.Ytcobnlilmihjfaa.A
open Go.RowKit Go.Proofs.YtcobnlilmihjfaaW.PrintWords Go.Proofs.YtcobnlilmihjfaaW.PrintLast Go.Proofs.YtcobnlilmihjfaaW.PrintMore
set_option linter.unusedVariables false
set_option linter.unusedSimpArgs false
abbrev Nd := List Cb × Int × Int
theorem moves_mem {parts : List (List Cb)} {o : List Cb} {m : Int} (h : m ∈ movesP parts o) : isMv parts.length m = true ∧ possP parts o m = true := by
 unfold movesP at h
 rw [List.mem_map] at h
 obtain ⟨a, ha, rfl⟩ := h
 rw [List.mem_filter] at ha
 have h2 := ha.2
 rw [Bool.and_eq_true, Bool.and_eq_true] at h2
 exact h2.2
theorem movedP_len (o : List Cb) (m : Int) : (movedP o m).length = o.length := by simp [movedP]
def spreadF.T9 : Bool × List (List Nat × List Nat) := (true, [([], []), ([0], [0]), ([1], [1]), ([2], [2]), ([], []), ([3, 4], [3, 4])])
def spreadF.B9 : List Nat := [0, 1, 3, 7, 0, 31]
theorem spreadF.tab9 : rtab .any (opsOf Try.f47 9) = spreadF.T9 := by kernel_rfl
theorem spreadF.bits9 : waitsOk spreadF.T9.2 spreadF.B9 = true := by kernel_rfl
def spreadF.T12 : Bool × List (List Nat × List Nat) := (true, [([], []), ([0], [0]), ([1], [1]), ([2], [2]), ([], []), ([3, 4, 0, 1, 2, 3, 4], [3, 4])])
def spreadF.B12 : List Nat := [0, 1, 3, 7, 0, 31]
theorem spreadF.tab12 : rtab .any (opsOf Try.f47 12) = spreadF.T12 := by kernel_rfl
theorem spreadF.bits12 : waitsOk spreadF.T12.2 spreadF.B12 = true := by kernel_rfl
abbrev cAt (o : List Cb) (i : Nat) : Cb := o.getD i ⟨0, 0, 0⟩
def stepsC : List Cb := [⟨0, 0, -1⟩, ⟨0, -1, 0⟩, ⟨-1, 0, 0⟩, ⟨1, 0, 0⟩, ⟨0, 1, 0⟩, ⟨0, 0, 1⟩]
def addO (l o : List Cb) (c : Cb) : List Cb := if (l.contains c && !o.contains c) = true then o ++ [c] else o
def expI (l o : List Cb) (c : Cb) (i : Nat) : List Cb := (stepsC.take i).foldl (fun o s => addO l o (addC c s)) o
def bfsO (l : List Cb) : Nat → List Cb → Nat → List Cb
 | 0, o, _ => o
 | f + 1, o, k => if k < o.length then bfsO l f (expI l o (cAt o k) 6) (k + 1) else o
def conP (l : List Cb) : Bool := decide ((bfsO l (l.length + 1) [cAt l 0] 0).length = l.length)
def lessC (a b : Cb) : Bool := if a.f2 = b.f2 then (if a.f1 = b.f1 then decide (a.f0 < b.f0) else decide (a.f1 < b.f1)) else decide (a.f2 < b.f2)
def solStep (l : List Cb) (j : Nat) : Bool := inCb (cAt l j) (-100) 100 && (decide (j = 0) || lessC (cAt l (j - 1)) (cAt l j))
def solP (l : List Cb) : Bool := (List.range l.length).all (solStep l) && (decide (1 ≤ l.length) && decide (l.length ≤ 24))
theorem inR_len (n : Nat) : inR (n : Int) 1 24 = (decide (1 ≤ n) && decide (n ≤ 24)) := by
 unfold inR
 rw [Bool.eq_iff_iff]
 simp only [Bool.and_eq_true, decide_eq_true_eq]
 omega
theorem solP_end (l : List Cb) (h : (List.range l.length).all (solStep l) = true) : solP l = inR (l.length : Int) 1 24 := by
 unfold solP
 rw [h, Bool.true_and, inR_len]
theorem solP_no (l : List Cb) (j : Nat) (hj : j < l.length) (h : solStep l j = false) : solP l = false := by
 unfold solP
 have : (List.range l.length).all (solStep l) = false := by
  rw [Bool.eq_false_iff]
  intro hc
  rw [List.all_eq_true] at hc
  have := hc j (List.mem_range.2 hj)
  rw [h] at this
  cases this
 rw [this, Bool.false_and]
theorem solP_next (l : List Cb) (j : Nat) (h : (List.range j).all (solStep l) = true) (h2 : solStep l j = true) : (List.range (j + 1)).all (solStep l) = true := by
 rw [List.range_succ, List.all_append, h]
 simp [h2]
def remO (l o : List Cb) : Nat := (l.filter fun c => !o.contains c).length
theorem remO_le (o : List Cb) (c : Cb) : ∀ l : List Cb, remO l (o ++ [c]) ≤ remO l o
 | [] => Nat.le_refl _
 | a :: l => by
  have ih := remO_le o c l
  unfold remO at ih ⊢
  simp only [List.filter_cons]
  by_cases h : o.contains a = true
  ·have h2 : (o ++ [c]).contains a = true := by
    rw [List.contains_eq_mem, decide_eq_true_eq] at h ⊢
    exact List.mem_append_left _ h
   rw [h, h2]
   exact ih
  ·rw [Bool.not_eq_true] at h
   rw [h]
   cases h2 : (o ++ [c]).contains a with
   | true => simp only [Bool.not_true, Bool.not_false, if_true, Bool.false_eq_true, if_false, List.length_cons]; omega
   | false => simp only [Bool.not_false, if_true, List.length_cons]; omega
theorem remO_lt (o : List Cb) (c : Cb) (hc : o.contains c = false) : ∀ l : List Cb, l.contains c = true → remO l (o ++ [c]) + 1 ≤ remO l o
 | [], h => by simp at h
 | a :: l, h => by
  by_cases e : c = a
  ·subst e
   have h1 := remO_le o c l
   have h2 : (o ++ [c]).contains c = true := by
    rw [List.contains_eq_mem, decide_eq_true_eq]
    exact List.mem_append_right _ (List.mem_singleton.2 rfl)
   unfold remO at h1 ⊢
   simp only [List.filter_cons]
   rw [hc, h2]
   simp only [Bool.not_true, Bool.not_false, if_true, Bool.false_eq_true, if_false, List.length_cons]
   omega
  ·have h3 : l.contains c = true := by
    rw [List.contains_eq_mem, decide_eq_true_eq] at h ⊢
    rcases List.mem_cons.1 h with h | h
    ·exact absurd h e
    ·exact h
   have ih := remO_lt o c hc l h3
   have h4 : (o ++ [c]).contains a = o.contains a := by
    rw [List.contains_eq_mem, List.contains_eq_mem, decide_eq_decide]
    constructor
    ·intro h
     rcases List.mem_append.1 h with h | h
     ·exact h
     ·exact absurd (List.mem_singleton.1 h).symm e
    ·exact List.mem_append_left _
   unfold remO at ih ⊢
   simp only [List.filter_cons]
   rw [h4]
   cases o.contains a with
   | true => exact ih
   | false => simp only [Bool.not_false, if_true, List.length_cons]; omega
def FitO (l o : List Cb) : Prop := o.length + remO l o ≤ l.length
theorem FitO.len {l o : List Cb} (h : FitO l o) : o.length ≤ l.length := by unfold FitO at h; omega
theorem FitO.start {l : List Cb} (h : 1 ≤ l.length) : FitO l [cAt l 0] := by
 have hc : l.contains (cAt l 0) = true := by
  rw [List.contains_eq_mem, decide_eq_true_eq]
  have hl : 0 < l.length := h
  have : cAt l 0 = l[0] := by simp [cAt, List.getD_eq_getElem?_getD, hl]
  rw [this]
  exact List.getElem_mem _
 have h1 := remO_lt [] (cAt l 0) (by simp) l hc
 have h2 : remO l [] = l.length := by unfold remO; simp
 unfold FitO
 rw [List.nil_append] at h1
 rw [h2] at h1
 simp only [List.length_cons, List.length_nil]
 omega
theorem FitO.add {l o : List Cb} (h : FitO l o) (c : Cb) : FitO l (addO l o c) := by
 unfold addO
 split
 case isFalse => exact h
 rename_i hb
 rw [Bool.and_eq_true, Bool.not_eq_true'] at hb
 have h1 := remO_lt o c hb.2 l hb.1
 unfold FitO at h ⊢
 rw [List.length_append, List.length_cons, List.length_nil]
 omega
theorem expI_succ (l o : List Cb) (c : Cb) (i : Nat) (h : i < 6) : expI l o c (i + 1) = addO l (expI l o c i) (addC c (cAt stepsC i)) := by
 unfold expI
 have hl : i < stepsC.length := h
 rw [List.take_succ_eq_append_getElem hl, List.foldl_append]
 have : cAt stepsC i = stepsC[i] := by simp [cAt, List.getD_eq_getElem?_getD, hl]
 rw [this]
 rfl
theorem FitO.exp {l o : List Cb} (h : FitO l o) (c : Cb) : ∀ i, i ≤ 6 → FitO l (expI l o c i)
 | 0, _ => h
 | i + 1, hi => by
  rw [expI_succ l o c i (by omega)]
  exact (FitO.exp h c i (by omega)).add _
theorem addO_pre (l o : List Cb) (c : Cb) (k : Nat) (h : k < o.length) : k < (addO l o c).length ∧ cAt (addO l o c) k = cAt o k := by
 unfold addO
 split
 ·refine ⟨by rw [List.length_append]; omega, ?_⟩
  simp only [cAt, List.getD_eq_getElem?_getD, List.getElem?_append_left h]
 ·exact ⟨h, rfl⟩
theorem expI_pre (l o : List Cb) (c : Cb) (k : Nat) (h : k < o.length) : ∀ i, i ≤ 6 → k < (expI l o c i).length ∧ cAt (expI l o c i) k = cAt o k
 | 0, _ => ⟨h, rfl⟩
 | i + 1, hi => by
  rw [expI_succ l o c i (by omega)]
  obtain ⟨h1, h2⟩ := expI_pre l o c k h i (by omega)
  obtain ⟨h3, h4⟩ := addO_pre l (expI l o c i) (addC c (cAt stepsC i)) k h1
  exact ⟨h3, h4.trans h2⟩
section
attribute [local go_sem] max2_int min2_int max_two min_two max_three min_three max_four min_four
def impl_isCoordinate.f (a0 : Int) : Option (Bool) := (impl_within.f a0 (-100) 100).bind fun t310 => (some t310)
set_option maxHeartbeats 8000000 in
set_option maxRecDepth 100000 in
theorem impl_isCoordinate.calls (a0 : Int) (r : Bool) (w : World) (h : impl_isCoordinate.f a0 = some r) :
    Calls Try.prog 101 #[.int .i64 a0] w fun e w' => e = .returned (.bool r) ∧ Drawn0 w w' := by
 have H : ((impl_within.f a0 (-100) 100).bind fun t310 => (some t310)) = some r := h
 clear h; (replace H := Option.bind_eq_some_iff.mp H); (obtain ⟨t310, A20, H⟩ := H); (try dsimp only at H); (have A2 := A0_ A20); clear A20; (have H0_ := A0_ H); clear H; (go_enter Try.func101, Try.ntmps101); (go_wp2_with (first | ((with_reducible refine gate_callee (f := 53) rfl ?_); refine gl_ (some 4) Try.func53 #[.int .i64 a0, .int .i64 (-100), .int .i64 100] ?_; (with_reducible refine (impl_within.calls a0 (-100) 100 t310 _ A2.out).mono ?_); rintro e w' ⟨rfl, ⟨nd, rfl⟩⟩; refine ⟨_, rfl, ?_⟩; refine Stop0.out ?_))); (refine Stop0.mk ?_); (have H := H0_.out); clear H0_; (obtain rfl := Option.some.inj H); go_wp2; go_ret; (exact ⟨by first | rfl | (simp; done) | (simp [*]; done), by repeat (first | exact Drawn0.refl _ | apply Drawn0.step)⟩)
end
section
attribute [local go_sem] max2_int min2_int max_two min_two max_three min_three max_four min_four
def cmp_isNaN_int64.f (a0 : Int) : Option (Bool) := some (a0 != a0)
set_option maxHeartbeats 8000000 in
set_option maxRecDepth 100000 in
theorem cmp_isNaN_int64.calls (a0 : Int) (r : Bool) (w : World) (h : cmp_isNaN_int64.f a0 = some r) :
    Calls Try.prog 120 #[.int .i64 a0] w fun e w' => e = .returned (.bool r) ∧ Drawn0 w w' := by
 (have H : (some (a0 != a0)) = some r := h); clear h; (obtain rfl := Option.some.inj H); (go_enter Try.func120, Try.ntmps120); go_wp2; go_ret; (exact ⟨by first | rfl | (simp; done) | (simp [*]; done), by repeat (first | exact Drawn0.refl _ | apply Drawn0.step)⟩)
end
section
attribute [local go_sem] max2_int min2_int max_two min_two max_three min_three max_four min_four
def cmp_Compare_int64.f (a0 : Int) (a1 : Int) : Option (Int) := (cmp_isNaN_int64.f a0).bind fun t311 => ((cmp_isNaN_int64.f a1).bind fun t312 => (if t311 = true then (if t312 = true then (some 0) else (some (-1))) else (if t312 = true then (some 1) else (if a0 < a1 then (some (-1)) else (if a0 > a1 then (some 1) else (some 0))))))
set_option maxHeartbeats 8000000 in
set_option maxRecDepth 100000 in
theorem cmp_Compare_int64.calls (a0 : Int) (a1 : Int) (r : Int) (w : World) (h : cmp_Compare_int64.f a0 a1 = some r) :
    Calls Try.prog 114 #[.int .i64 a0, .int .i64 a1] w fun e w' => e = .returned (.int .i64 r) ∧ Drawn0 w w' := by
 have H : ((cmp_isNaN_int64.f a0).bind fun t311 => ((cmp_isNaN_int64.f a1).bind fun t312 => (if t311 = true then (if t312 = true then (some 0) else (some (-1))) else (if t312 = true then (some 1) else (if a0 < a1 then (some (-1)) else (if a0 > a1 then (some 1) else (some 0))))))) = some r := h
 clear h; (replace H := Option.bind_eq_some_iff.mp H); (obtain ⟨t311, A30, H⟩ := H); (try dsimp only at H); (have A3 := A0_ A30); clear A30; (have H0_ := A0_ H); clear H; (go_enter Try.func114, Try.ntmps114); (go_wp2_with (first | ((with_reducible refine gate_callee (f := 120) rfl ?_); refine gl_ (some 8) Try.func120 #[.int .i64 a0] ?_; (with_reducible refine (cmp_isNaN_int64.calls a0 t311 _ A3.out).mono ?_); rintro e w' ⟨rfl, ⟨nd, rfl⟩⟩; refine ⟨_, rfl, ?_⟩; refine Stop0.out ?_))); (refine Stop0.mk ?_); (have H := H0_.out); clear H0_; (replace H := Option.bind_eq_some_iff.mp H); (obtain ⟨t312, A40, H⟩ := H); (try dsimp only at H); (have A4 := A0_ A40); clear A40; (have H0_ := A0_ H); clear H; (go_wp2_with (first | ((with_reducible refine gate_callee (f := 120) rfl ?_); refine gl_ (some 10) Try.func120 #[.int .i64 a1] ?_; (with_reducible refine (cmp_isNaN_int64.calls a1 t312 _ A4.out).mono ?_); rintro e w' ⟨rfl, ⟨nd, rfl⟩⟩; refine ⟨_, rfl, ?_⟩; refine Stop0.out ?_))); (refine Stop0.mk ?_); (have H := H0_.out); clear H0_; (by_cases c5 : t311 = true)
 ·subst c5; (have H1 := H); (rw [if_pos rfl] at H1); clear H; (have H := H1); clear H1; (by_cases c6 : t312 = true)
  ·subst c6; (have H1 := H); (rw [if_pos rfl] at H1); clear H; (have H := H1); clear H1; (obtain rfl := Option.some.inj H); go_wp2; go_ret; (exact ⟨by first | rfl | (simp; done) | (simp [*]; done), by repeat (first | exact Drawn0.refl _ | apply Drawn0.step)⟩)
  ·(replace c6 := Bool.eq_false_iff.mpr c6); subst c6; (have H1 : (some (-1)) = some r := by rw [if_neg (show ¬ (false = true) by decide)] at H; exact H); clear H; (have H := H1); clear H1; (obtain rfl := Option.some.inj H); go_wp2; go_ret; (exact ⟨by first | rfl | (simp; done) | (simp [*]; done), by repeat (first | exact Drawn0.refl _ | apply Drawn0.step)⟩)
 ·(replace c5 := Bool.eq_false_iff.mpr c5); subst c5; (have H1 : (if t312 = true then (some 1) else (if a0 < a1 then (some (-1)) else (if a0 > a1 then (some 1) else (some 0)))) = some r := by rw [if_neg (show ¬ (false = true) by decide)] at H; exact H); clear H; (have H := H1); clear H1; (by_cases c7 : t312 = true)
  ·subst c7; (have H1 := H); (rw [if_pos rfl] at H1); clear H; (have H := H1); clear H1; (obtain rfl := Option.some.inj H); go_wp2; go_ret; (exact ⟨by first | rfl | (simp; done) | (simp [*]; done), by repeat (first | exact Drawn0.refl _ | apply Drawn0.step)⟩)
  ·(replace c7 := Bool.eq_false_iff.mpr c7); subst c7; (have H1 : (if a0 < a1 then (some (-1)) else (if a0 > a1 then (some 1) else (some 0))) = some r := by rw [if_neg (show ¬ (false = true) by decide)] at H; exact H); clear H; (have H := H1); clear H1; (by_cases c8 : a0 < a1)
   ·(rw [if_pos c8] at H); (have c8b0 : decide (a0 < a1) = true := decide_eq_true c8); clear c8; (obtain rfl := Option.some.inj H); go_wp2; go_ret; (exact ⟨by first | rfl | (simp; done) | (simp [*]; done), by repeat (first | exact Drawn0.refl _ | apply Drawn0.step)⟩)
   ·(rw [if_neg c8] at H); (have c8b0 : decide (a0 < a1) = false := decide_eq_false c8); clear c8; (by_cases c9 : a0 > a1)
    ·(rw [if_pos c9] at H); (have c9b0 : decide (a1 < a0) = true := decide_eq_true c9); clear c9; (obtain rfl := Option.some.inj H); go_wp2; go_ret; (exact ⟨by first | rfl | (simp; done) | (simp [*]; done), by repeat (first | exact Drawn0.refl _ | apply Drawn0.step)⟩)
    ·(rw [if_neg c9] at H); (have c9b0 : decide (a1 < a0) = false := decide_eq_false c9); clear c9; (obtain rfl := Option.some.inj H); go_wp2; go_ret; (exact ⟨by first | rfl | (simp; done) | (simp [*]; done), by repeat (first | exact Drawn0.refl _ | apply Drawn0.step)⟩)
end
section
attribute [local go_sem] max2_int min2_int max_two min_two max_three min_three max_four min_four
def impl_compareCells.f (a0_0 : Int) (a0_1 : Int) (a1_0 : Int) (a1_1 : Int) : Option (Int) := (cmp_Compare_int64.f a0_1 a1_1).bind fun t315 => (if t315 = 0 then ((cmp_Compare_int64.f a0_0 a1_0).bind fun t316 => (some t316)) else (some t315))
set_option maxHeartbeats 8000000 in
set_option maxRecDepth 100000 in
theorem impl_compareCells.calls (a0_0 : Int) (a0_1 : Int) (a1_0 : Int) (a1_1 : Int) (r : Int) (w : World) (h : impl_compareCells.f a0_0 a0_1 a1_0 a1_1 = some r) :
    Calls Try.prog 115 #[.agg #[.int .i64 a0_0, .int .i64 a0_1], .agg #[.int .i64 a1_0, .int .i64 a1_1]] w fun e w' => e = .returned (.int .i64 r) ∧ Below w.heap.size w w' := by
 (have hu144 := Try.underlying144); (have HB := A0_ (Below.refl w.heap.size w))
 have H : ((cmp_Compare_int64.f a0_1 a1_1).bind fun t315 => (if t315 = 0 then ((cmp_Compare_int64.f a0_0 a1_0).bind fun t316 => (some t316)) else (some t315))) = some r := h
 clear h; (replace H := Option.bind_eq_some_iff.mp H); (obtain ⟨t315, A30, H⟩ := H); (try dsimp only at H); (have A3 := A0_ A30); clear A30; (have H0_ := A0_ H); clear H; (go_enter Try.func115, Try.ntmps115); (go_wp2_with (first | ((with_reducible refine gate_dst (N := 2) rfl ?_); refine be_ (N := 2) (cs := #[.int .i64 a0_0, .int .i64 a0_1]) (t := 144) ?_; intro gb313 hg w4 hbox hb; have n0_ := A0_ (below_step bw_ hb); have n1_ := A0_ (hbox); have n2_ := A0_ ((by rw [hg]; exact (below_size bw_) : w.heap.size ≤ gb313)); have n3_ := A0_ ((by rw [hg]; exact (below_size bw_) : w.heap.size ≤ gb313)); clear HB; have HB := n0_; have BK313 := n1_; have GW313 := n2_; have GE313 := n3_; clear n0_ n1_ n2_ n3_; clear hb hbox hg) | ((with_reducible refine gate_dst (N := 3) rfl ?_); refine be_ (N := 3) (cs := #[.int .i64 a1_0, .int .i64 a1_1]) (t := 144) ?_; intro gb314 hg w5 hbox hb; have n0_ := A0_ (blk_below (g := gb313) (o := .cells #[.int .i64 a0_0, .int .i64 a0_1] 144 (0, 0)) (bk_ BK313) hb); have n1_ := A0_ (below_step bx_ hb); have n2_ := A0_ (hbox); have n3_ := A0_ ((by rw [hg]; exact (below_size bx_) : w.heap.size ≤ gb314)); have n4_ := A0_ ((by rw [hg]; exact (below_size bx_) : w.heap.size ≤ gb314)); have n5_ := A0_ ((by rw [hg]; exact Nat.ne_of_lt (blk_lt (g := gb313) (o := .cells #[.int .i64 a0_0, .int .i64 a0_1] 144 (0, 0)) (bk_ BK313)) : gb313 ≠ gb314)); have n6_ := A0_ ((by rw [hg]; exact Nat.ne_of_gt (blk_lt (g := gb313) (o := .cells #[.int .i64 a0_0, .int .i64 a0_1] 144 (0, 0)) (bk_ BK313)) : gb314 ≠ gb313)); clear BK313; clear HB; have BK313 := n0_; have HB := n1_; have BK314 := n2_; have GW314 := n3_; have GE314 := n4_; have NB313_314 := n5_; have NB314_313 := n6_; clear n0_ n1_ n2_ n3_ n4_ n5_ n6_; clear hb hbox hg; have hnb6 := NB313_314.out; have hnc6 := NB314_313.out; have hcz7_0 : w5.cell? ⟨gb313, 0, none⟩ = some (.int .i64 a0_0) := (blk_cell BK313.out 0).trans rfl; have hcz7_1 : w5.cell? ⟨gb313, 1, none⟩ = some (.int .i64 a0_1) := (blk_cell BK313.out 1).trans rfl; have hfz7_0 := blk_frozen BK313.out 0; have hfz7_1 := blk_frozen BK313.out 1; have hcz8_0 : w5.cell? ⟨gb314, 0, none⟩ = some (.int .i64 a1_0) := (blk_cell BK314.out 0).trans rfl; have hcz8_1 : w5.cell? ⟨gb314, 1, none⟩ = some (.int .i64 a1_1) := (blk_cell BK314.out 1).trans rfl; have hfz8_0 := blk_frozen BK314.out 0; have hfz8_1 := blk_frozen BK314.out 1) | ((with_reducible refine gate_callee (f := 114) rfl ?_); refine gl_ (some 10) Try.func114 #[.int .i64 a0_1, .int .i64 a1_1] ?_; (with_reducible refine (cmp_Compare_int64.calls a0_1 a1_1 t315 _ A3.out).mono ?_); rintro e w' ⟨rfl, ⟨nd, rfl⟩⟩; refine ⟨_, rfl, ?_⟩; refine Stop0.out ?_))); (refine Stop0.mk ?_); (have H := H0_.out); clear H0_; (by_cases c9 : t315 = 0)
 ·(rw [if_pos c9] at H); (have c9b0 : (t315 == 0) = true := beq_iff_eq.mpr c9); (have c9b1 : (t315 != 0) = false := bne_eq_false_iff_eq.mpr c9); clear c9; (replace H := Option.bind_eq_some_iff.mp H); (obtain ⟨t316, A100, H⟩ := H); (try dsimp only at H); (have A10 := A0_ A100); clear A100; (have H0_ := A0_ H); clear H; (have hnb11 := NB313_314.out); (have hnc11 := NB314_313.out); (have hcz12_0 : w5.cell? ⟨gb313, 0, none⟩ = some (.int .i64 a0_0) := (blk_cell BK313.out 0).trans rfl); (have hcz12_1 : w5.cell? ⟨gb313, 1, none⟩ = some (.int .i64 a0_1) := (blk_cell BK313.out 1).trans rfl); (have hfz12_0 := blk_frozen BK313.out 0); (have hfz12_1 := blk_frozen BK313.out 1); (have hcz13_0 : w5.cell? ⟨gb314, 0, none⟩ = some (.int .i64 a1_0) := (blk_cell BK314.out 0).trans rfl); (have hcz13_1 : w5.cell? ⟨gb314, 1, none⟩ = some (.int .i64 a1_1) := (blk_cell BK314.out 1).trans rfl); (have hfz13_0 := blk_frozen BK314.out 0); (have hfz13_1 := blk_frozen BK314.out 1); (go_wp2_with (first | ((with_reducible refine gate_callee (f := 114) rfl ?_); refine gl_ (some 18) Try.func114 #[.int .i64 a0_0, .int .i64 a1_0] ?_; (with_reducible refine (cmp_Compare_int64.calls a0_0 a1_0 t316 _ A10.out).mono ?_); rintro e w' ⟨rfl, ⟨nd, rfl⟩⟩; refine ⟨_, rfl, ?_⟩; refine Stop0.out ?_))); (refine Stop0.mk ?_); (have H := H0_.out); clear H0_; (obtain rfl := Option.some.inj H); go_wp2; go_ret; (exact ⟨er_, bx_⟩)
 ·(rw [if_neg c9] at H); (have c9b0 : (t315 == 0) = false := beq_eq_false_iff_ne.mpr c9); (have c9b1 : (t315 != 0) = true := bne_iff_ne.mpr c9); (obtain rfl := Option.some.inj H); go_wp2; go_ret; (exact ⟨er_, bx_⟩)
end
section
attribute [local go_sem] max2_int min2_int max_two min_two max_three min_three max_four min_four
def impl_compareCubes.f (a0_0 : Int) (a0_1 : Int) (a0_2 : Int) (a1_0 : Int) (a1_1 : Int) (a1_2 : Int) : Option (Int) := (cmp_Compare_int64.f a0_2 a1_2).bind fun t319 => (if t319 = 0 then ((impl_compareCells.f a0_0 a0_1 a1_0 a1_1).bind fun t320 => (some t320)) else (some t319))
set_option maxHeartbeats 8000000 in
set_option maxRecDepth 100000 in
theorem impl_compareCubes.calls (a0_0 : Int) (a0_1 : Int) (a0_2 : Int) (a1_0 : Int) (a1_1 : Int) (a1_2 : Int) (r : Int) (w : World) (h : impl_compareCubes.f a0_0 a0_1 a0_2 a1_0 a1_1 a1_2 = some r) :
    Calls Try.prog 102 #[.agg #[.int .i64 a0_0, .int .i64 a0_1, .int .i64 a0_2], .agg #[.int .i64 a1_0, .int .i64 a1_1, .int .i64 a1_2]] w fun e w' => e = .returned (.int .i64 r) ∧ Below w.heap.size w w' := by
 (have hu94 := Try.underlying94); (have hu144 := Try.underlying144); (have HB := A0_ (Below.refl w.heap.size w))
 have H : ((cmp_Compare_int64.f a0_2 a1_2).bind fun t319 => (if t319 = 0 then ((impl_compareCells.f a0_0 a0_1 a1_0 a1_1).bind fun t320 => (some t320)) else (some t319))) = some r := h
 clear h; (replace H := Option.bind_eq_some_iff.mp H); (obtain ⟨t319, A30, H⟩ := H); (try dsimp only at H); (have A3 := A0_ A30); clear A30; (have H0_ := A0_ H); clear H; (go_enter Try.func102, Try.ntmps102); (go_wp2_with (first | ((with_reducible refine gate_dst (N := 2) rfl ?_); refine be_ (N := 2) (cs := #[.int .i64 a0_0, .int .i64 a0_1, .int .i64 a0_2]) (t := 94) ?_; intro gb317 hg w4 hbox hb; have n0_ := A0_ (below_step bw_ hb); have n1_ := A0_ (hbox); have n2_ := A0_ ((by rw [hg]; exact (below_size bw_) : w.heap.size ≤ gb317)); have n3_ := A0_ ((by rw [hg]; exact (below_size bw_) : w.heap.size ≤ gb317)); clear HB; have HB := n0_; have BK317 := n1_; have GW317 := n2_; have GE317 := n3_; clear n0_ n1_ n2_ n3_; clear hb hbox hg) | ((with_reducible refine gate_dst (N := 3) rfl ?_); refine be_ (N := 3) (cs := #[.int .i64 a1_0, .int .i64 a1_1, .int .i64 a1_2]) (t := 94) ?_; intro gb318 hg w5 hbox hb; have n0_ := A0_ (blk_below (g := gb317) (o := .cells #[.int .i64 a0_0, .int .i64 a0_1, .int .i64 a0_2] 94 (0, 0)) (bk_ BK317) hb); have n1_ := A0_ (below_step bx_ hb); have n2_ := A0_ (hbox); have n3_ := A0_ ((by rw [hg]; exact (below_size bx_) : w.heap.size ≤ gb318)); have n4_ := A0_ ((by rw [hg]; exact (below_size bx_) : w.heap.size ≤ gb318)); have n5_ := A0_ ((by rw [hg]; exact Nat.ne_of_lt (blk_lt (g := gb317) (o := .cells #[.int .i64 a0_0, .int .i64 a0_1, .int .i64 a0_2] 94 (0, 0)) (bk_ BK317)) : gb317 ≠ gb318)); have n6_ := A0_ ((by rw [hg]; exact Nat.ne_of_gt (blk_lt (g := gb317) (o := .cells #[.int .i64 a0_0, .int .i64 a0_1, .int .i64 a0_2] 94 (0, 0)) (bk_ BK317)) : gb318 ≠ gb317)); clear BK317; clear HB; have BK317 := n0_; have HB := n1_; have BK318 := n2_; have GW318 := n3_; have GE318 := n4_; have NB317_318 := n5_; have NB318_317 := n6_; clear n0_ n1_ n2_ n3_ n4_ n5_ n6_; clear hb hbox hg; have hnb6 := NB317_318.out; have hnc6 := NB318_317.out; have hcz7_0 : w5.cell? ⟨gb317, 0, none⟩ = some (.int .i64 a0_0) := (blk_cell BK317.out 0).trans rfl; have hcz7_1 : w5.cell? ⟨gb317, 1, none⟩ = some (.int .i64 a0_1) := (blk_cell BK317.out 1).trans rfl; have hcz7_2 : w5.cell? ⟨gb317, 2, none⟩ = some (.int .i64 a0_2) := (blk_cell BK317.out 2).trans rfl; have hfz7_0 := blk_frozen BK317.out 0; have hfz7_1 := blk_frozen BK317.out 1; have hfz7_2 := blk_frozen BK317.out 2; have hcz8_0 : w5.cell? ⟨gb318, 0, none⟩ = some (.int .i64 a1_0) := (blk_cell BK318.out 0).trans rfl; have hcz8_1 : w5.cell? ⟨gb318, 1, none⟩ = some (.int .i64 a1_1) := (blk_cell BK318.out 1).trans rfl; have hcz8_2 : w5.cell? ⟨gb318, 2, none⟩ = some (.int .i64 a1_2) := (blk_cell BK318.out 2).trans rfl; have hfz8_0 := blk_frozen BK318.out 0; have hfz8_1 := blk_frozen BK318.out 1; have hfz8_2 := blk_frozen BK318.out 2) | ((with_reducible refine gate_callee (f := 114) rfl ?_); refine gl_ (some 10) Try.func114 #[.int .i64 a0_2, .int .i64 a1_2] ?_; (with_reducible refine (cmp_Compare_int64.calls a0_2 a1_2 t319 _ A3.out).mono ?_); rintro e w' ⟨rfl, ⟨nd, rfl⟩⟩; refine ⟨_, rfl, ?_⟩; refine Stop0.out ?_))); (refine Stop0.mk ?_); (have H := H0_.out); clear H0_; (by_cases c9 : t319 = 0)
 ·(rw [if_pos c9] at H); (have c9b0 : (t319 == 0) = true := beq_iff_eq.mpr c9); (have c9b1 : (t319 != 0) = false := bne_eq_false_iff_eq.mpr c9); clear c9; (replace H := Option.bind_eq_some_iff.mp H); (obtain ⟨t320, A100, H⟩ := H); (try dsimp only at H); (have A10 := A0_ A100); clear A100; (have H0_ := A0_ H); clear H; (have hnb11 := NB317_318.out); (have hnc11 := NB318_317.out); (have hcz12_0 : w5.cell? ⟨gb317, 0, none⟩ = some (.int .i64 a0_0) := (blk_cell BK317.out 0).trans rfl); (have hcz12_1 : w5.cell? ⟨gb317, 1, none⟩ = some (.int .i64 a0_1) := (blk_cell BK317.out 1).trans rfl); (have hcz12_2 : w5.cell? ⟨gb317, 2, none⟩ = some (.int .i64 a0_2) := (blk_cell BK317.out 2).trans rfl); (have hfz12_0 := blk_frozen BK317.out 0); (have hfz12_1 := blk_frozen BK317.out 1); (have hfz12_2 := blk_frozen BK317.out 2); (have hcz13_0 : w5.cell? ⟨gb318, 0, none⟩ = some (.int .i64 a1_0) := (blk_cell BK318.out 0).trans rfl); (have hcz13_1 : w5.cell? ⟨gb318, 1, none⟩ = some (.int .i64 a1_1) := (blk_cell BK318.out 1).trans rfl); (have hcz13_2 : w5.cell? ⟨gb318, 2, none⟩ = some (.int .i64 a1_2) := (blk_cell BK318.out 2).trans rfl); (have hfz13_0 := blk_frozen BK318.out 0); (have hfz13_1 := blk_frozen BK318.out 1); (have hfz13_2 := blk_frozen BK318.out 2); (go_wp2_with (first | ((with_reducible refine gate_callee (f := 115) rfl ?_); refine gl_ (some 24) Try.func115 #[.agg #[.int .i64 a0_0, .int .i64 a0_1], .agg #[.int .i64 a1_0, .int .i64 a1_1]] ?_; (with_reducible refine (impl_compareCells.calls a0_0 a0_1 a1_0 a1_1 t320 _ A10.out).mono ?_); rintro e w14 ⟨rfl, hb⟩; refine ⟨_, rfl, ?_⟩; have n0_ := A0_ (blk_below (g := gb317) (o := .cells #[.int .i64 a0_0, .int .i64 a0_1, .int .i64 a0_2] 94 (0, 0)) (bk_ BK317) hb); have n1_ := A0_ (blk_below (g := gb318) (o := .cells #[.int .i64 a1_0, .int .i64 a1_1, .int .i64 a1_2] 94 (0, 0)) (bk_ BK318) hb); have n2_ := A0_ (below_step bx_ hb); clear BK317; clear BK318; clear HB; have BK317 := n0_; have BK318 := n1_; have HB := n2_; clear n0_ n1_ n2_; (try clear hb); (try clear hb2); (try clear hk); (try clear hi); refine Stop0.out ?_))); (refine Stop0.mk ?_); (have H := H0_.out); clear H0_; (obtain rfl := Option.some.inj H); go_wp2; go_ret; (exact ⟨er_, bx_⟩)
 ·(rw [if_neg c9] at H); (have c9b0 : (t319 == 0) = false := beq_eq_false_iff_ne.mpr c9); (have c9b1 : (t319 != 0) = true := bne_iff_ne.mpr c9); (obtain rfl := Option.some.inj H); go_wp2; go_ret; (exact ⟨er_, bx_⟩)
end
theorem coord_eq (a : Int) : impl_isCoordinate.f a = some (inR a (-100) 100) := by
 unfold impl_isCoordinate.f
 rw [within_eq]
 rfl
theorem nan_eq (a : Int) : cmp_isNaN_int64.f a = some false := by
 unfold cmp_isNaN_int64.f
 simp
theorem cmp_eq (a b : Int) : cmp_Compare_int64.f a b = some (if a < b then -1 else if a = b then 0 else 1) := by
 unfold cmp_Compare_int64.f
 rw [nan_eq, nan_eq]
 by_cases h : a < b
 ·simp [h]
 ·by_cases e : a = b
  ·subst e; simp
  ·have : b < a := by omega
   simp [h, e, this]
theorem compare_eq (a b : Cb) : ∃ t : Int, impl_compareCubes.f a.f0 a.f1 a.f2 b.f0 b.f1 b.f2 = some t ∧ decide (t ≥ 0) = !lessC a b := by
 unfold impl_compareCubes.f impl_compareCells.f lessC
 simp only [cmp_eq, Option.bind_some]
 by_cases e2 : a.f2 = b.f2
 ·rw [if_neg (show ¬ a.f2 < b.f2 by omega), if_pos e2, if_pos e2]
  by_cases e1 : a.f1 = b.f1
  ·rw [if_neg (show ¬ a.f1 < b.f1 by omega), if_pos e1, if_pos e1]
   by_cases e0 : a.f0 < b.f0
   ·refine ⟨-1, by simp [e0], ?_⟩
    rw [decide_eq_true e0]; rfl
   ·by_cases e0' : a.f0 = b.f0
    ·refine ⟨0, by simp [e0'], ?_⟩
     rw [decide_eq_false e0]; rfl
    ·refine ⟨1, by simp [e0, e0'], ?_⟩
     rw [decide_eq_false e0]; rfl
  ·by_cases c1 : a.f1 < b.f1
   ·refine ⟨-1, by simp [c1], ?_⟩
    rw [if_neg e1, decide_eq_true c1]; rfl
   ·refine ⟨1, by simp [c1, e1], ?_⟩
    rw [if_neg e1, decide_eq_false c1]; rfl
 ·by_cases c2 : a.f2 < b.f2
  ·refine ⟨-1, by simp [c2], ?_⟩
   rw [if_neg e2, decide_eq_true c2]; rfl
  ·refine ⟨1, by simp [c2, e2], ?_⟩
   rw [if_neg e2, decide_eq_false c2]; rfl
end Go.Proofs.Ytcobnlilmihjfaa.A
/- A whole struct is stored into a block of one's own, over separate resources. -/
namespace Go.Proofs.YtcobnlilmihjfaaW.PrintMore
open Go.RowKit Go.Proofs.YtcobnlilmihjfaaW.PrintWords Go.Proofs.YtcobnlilmihjfaaW.PrintLast
set_option linter.unusedVariables false
theorem setCells_upd (g : Nat) : ∀ (vs : List Value) (o : Nat) (w : World) (cs : Array Value) (t : TypeId), w.heap[g]? = some (.cells cs t (0, 0)) → o + vs.length ≤ cs.size →
  ∃ cs' : Array Value, (w.setCells g o vs).heap[g]? = some (.cells cs' t (0, 0)) ∧ cs'.toList = cs.toList.take o ++ vs ++ cs.toList.drop (o + vs.length) ∧ (w.setCells g o vs).heap.size = w.heap.size
 | [], o, w, cs, t, h, hl => ⟨cs, h, by simp, rfl⟩
 | v :: r, o, w, cs, t, h, hl => by
  have hl' : o + (r.length + 1) ≤ cs.size := hl
  have h1 := blk_put (cs' := cs.setIfInBounds o v) h o v rfl
  obtain ⟨cs', h2, h3, h4⟩ := setCells_upd g r (o + 1) (w.setCell ⟨g, o, none⟩ v) _ t h1 (by simp; omega)
  refine ⟨cs', h2, ?_, h4.trans (by simp [World.setCell])⟩
  rw [h3]
  have hlen : o < cs.toList.length := by rw [Array.length_toList]; omega
  rw [show (cs.setIfInBounds o v).toList = cs.toList.set o v from Array.toList_setIfInBounds, List.length_cons, show o + 1 + r.length = o + (r.length + 1) from by omega]
  rw [List.take_succ_eq_append_getElem (by rw [List.length_set]; exact hlen), List.getElem_set_self, List.take_set_of_le (Nat.le_refl _), List.drop_set_of_lt (by omega)]
  simp
theorem setCells_rest (g : Nat) : ∀ (vs : List Value) (o : Nat) (w : World), (w.setCells g o vs).os = w.os ∧ (w.setCells g o vs).tape = w.tape ∧ (w.setCells g o vs).output = w.output
 | [], _, _ => ⟨rfl, rfl, rfl⟩
 | v :: r, o, w => setCells_rest g r (o + 1) (w.setCell ⟨g, o, none⟩ v)
theorem setCells_far (g k : Nat) (hne : k ≠ g) : ∀ (vs : List Value) (o : Nat) (w : World), (w.setCells g o vs).heap[k]? = w.heap[k]?
 | [], _, _ => rfl
 | v :: r, o, w => (setCells_far g k hne r (o + 1) (w.setCell ⟨g, o, none⟩ v)).trans (Below.heap_setCell w ⟨g, o, none⟩ v k (fun e => hne (by first | exact e | exact e.symm)))
section
variable {P : Program} {w0 w : World} {rs : List Res} {i g : Nat} {cs : Array Value} {t : TypeId}
theorem Sp.blkAll (h : Sp w0 rs w) (hi : rs[i]? = some (Res.blk g cs t)) (cs' : Array Value) (hl : cs'.size = cs.size) : Sp w0 (rs.set i (Res.blk g cs' t)) (w.setCells g 0 cs'.toList) := by
 obtain ⟨h1, _⟩ := Sp.blk h hi
 obtain ⟨c2, h2, h3, h4⟩ := setCells_upd g cs'.toList 0 w cs t h1 (by rw [Array.length_toList]; omega)
 have he : c2 = cs' := by
  apply Array.toList_inj.1
  rw [h3, Array.length_toList, Nat.zero_add, hl, ← Array.length_toList, List.drop_length]
  simp
 subst he
 refine h.upd (r' := Res.blk g c2 t) hi (fun fp hp hb => ⟨⟨(setCells_rest g _ 0 w).1, (setCells_rest g _ 0 w).2.1, (setCells_rest g _ 0 w).2.2, Nat.le_of_eq h4.symm, fun k hk hn => setCells_far g k (fun e => hn (e ▸ hp.1)) _ 0 w⟩, .inl hp.1, h2⟩)
theorem Sp.blkStore (h : Sp w0 rs w) (hi : rs[i]? = some (Res.blk g cs t)) (u : Value) (cs' : Array Value) (hl : cs'.size = cs.size) (hu : u.cells = cs') (ht : (P.info? t).map (·.size) = some cs'.size) (h1 : ∀ q ∈ cs'.toList, q.oneCell' = true) :
  (Instr.storeAt t (.pointer (some ⟨g, 0, none⟩)) u).run P w = .ok () (w.setCells g 0 cs'.toList) := by
 obtain ⟨h2, _⟩ := Sp.blk h hi
 exact run_store_run t u cs'.toList h2 (by rw [hu]) (by rw [ht, Array.length_toList]) (by rw [Array.length_toList]; omega) h1
end
end Go.Proofs.YtcobnlilmihjfaaW.PrintMore

namespace Go.Proofs.Ytcobnlilmihjfaa.A
open Go.RowKit Go.Proofs.YtcobnlilmihjfaaW.PrintWords Go.Proofs.YtcobnlilmihjfaaW.PrintLast Go.Proofs.YtcobnlilmihjfaaW.PrintMore
set_option linter.unusedVariables false
set_option linter.unusedSimpArgs false
def impl_isSolid.f (k : Nat) (l : List Cb) : Option Bool := if l.length ≤ 1048576 then some (solP l) else none
theorem compare_at (a b : Cb) : ∃ t : Int, impl_compareCubes.f a.f0 a.f1 a.f2 b.f0 b.f1 b.f2 = some t ∧ decide (t ≥ 0) = !lessC a b := compare_eq a b
def isoF.T4 : Bool × List (List Nat × List Nat) := (true, [([], []), ([0], [0]), ([1], [1]), ([2], [2]), ([3, 2], [3]), ([4], [4]), ([5, 4], [4, 5]), ([6, 4, 4], [4, 6]), ([7, 4], [4, 7]), ([4, 8], [4, 8]), ([9, 7], [9]), ([10], [10]), ([11, 10], [10, 11]), ([12, 10, 10], [10, 12]), ([13, 10], [10, 13]), ([10, 14], [10, 14]), ([15, 13], [15]), ([16], [16]), ([17, 16], [16, 17]), ([18, 16, 16], [16, 18]), ([19], [19]), ([19], [19]), ([21, 19], [19, 21]), ([20, 22, 19], [19, 20, 22]), ([23, 19], [19, 23]), ([19], [19]), ([24, 25, 19, 19], [19, 24, 25]), ([26, 19], [19, 26]), ([19, 27, 16], [16, 19, 27]), ([16, 28], [16, 28])])
def isoF.B4 : List Nat := [0, 1, 3, 7, 15, 31, 63, 127, 255, 511, 1023, 2047, 4095, 8191, 16383, 32767, 65535, 131071, 262143, 524287, 1048575, 1048575, 3145727, 8388607, 16777215, 1048575, 67108863, 134217727, 268435455, 536870911]
theorem isoF.tab4 : rtab .any (opsOf Try.f72 4) = isoF.T4 := by kernel_rfl
theorem isoF.bits4 : waitsOk isoF.T4.2 isoF.B4 = true := by kernel_rfl
set_option maxHeartbeats 4000000 in
set_option maxRecDepth 100000 in
theorem impl_isSolid.calls (k : Nat) (A0 : Option Addr) (c0 : Nat) (l : List Cb) (r : Bool) (w : World) (hr0 : Kd.C k94 w A0 l.length l) (hc0 : l.length ≤ c0) (h : impl_isSolid.f k l = some r) :
    Calls Try.prog 72 #[.slice A0 l.length c0] w fun e w' => e = .returned (.bool r) ∧ Below w.heap.size w w' := by
 (have hu69 := Try.underlying94); (unfold impl_isSolid.f at h); (split at h)
 case isFalse => cases h
 (rename_i hz); (obtain rfl := Option.some.inj h); (have HR0 := A0_ hr0); (have HZ := A0_ hz); (have HS := A0_ (Sp.start w)); clear hr0 hz h; (go_enter Try.func72, Try.ntmps72); go_wp2
 go_loopg [7] (l.length + 1) (fun kq v7 w' => ∃ (i : Nat), v7 = .int .i64 (i : Int) ∧ Aside0 (i ≤ l.length ∧ kq + i = l.length + 1 ∧ (List.range i).all (solStep l) = true) ∧ Aside0 (Sp w [] w'))
 case atStart => exact ⟨0, rfl, ⟨by omega, by omega, rfl⟩, HS⟩
 case round =>
  clear HS; (obtain ⟨i, rfl, HX, HS⟩ := hrel); (obtain ⟨k1, rfl⟩ : ∃ k1, gk = k1 + 1 := ⟨gk - 1, by have := HX.out; omega⟩); (by_cases ci : i < l.length)
  ·(have ci0 : decide (i < l.length) = true := decide_eq_true ci); (have q0 : (0 ≤ (i : Int)) = True := eq_true (by omega)); (have q1 : ((i : Int) < (l.length : Int)) = True := eq_true (by omega)); (have q2 : (i < l.length) = True := eq_true ci); (have HW := A0_ (wrap_succ i (by have := HZ.out; omega))); (have HNO := A0_ (solP_no l i ci)); (have HNX := A0_ (solP_next l i HX.out.2.2)); (obtain ⟨adl, e, hx0, hx1, hx2⟩ := at_T94 (Kd.C_below HR0.out HS.out.below) (i : Int) (by omega) (by omega)); subst e; (rw [show rd_T94 l (i : Int) = cAt l i from rfl] at hx0 hx1 hx2); (rw [Int.toNat_natCast] at hx0 hx1 hx2); (have hss : solStep l i = (inCb (cAt l i) (-100) 100 && (decide (i = 0) || lessC (cAt l (i - 1)) (cAt l i))) := rfl); (rw [hss] at HNO HNX); clear hss; (have HCI := A0_ ci); (obtain ⟨c, hc⟩ : ∃ c, c = cAt l i := ⟨_, rfl⟩); (rw [← hc] at hx0 hx1 hx2 HNO HNX); clear ci hc; go_wp2; (obtain ⟨gc, hg_⟩ : ∃ g_, g_ = (wr).heap.size := ⟨_, rfl⟩; obtain ⟨wx, hw_⟩ : ∃ w_, w_ = (wr).alloc (.cells #[.int .i64 c.f0, .int .i64 c.f1, .int .i64 c.f2] 94) := ⟨_, rfl⟩; (try rw [← hw_]); (try rw [← hg_]); have HS_ := A0_ (Sp.box HS.out #[.int .i64 c.f0, .int .i64 c.f1, .int .i64 c.f2] 94); rw [← hw_, ← hg_] at HS_; clear HS; have HS := HS_; clear HS_ hw_ hg_); (have HS_ := A0_ (show Sp w ([Res.blk gc #[.int .i64 c.f0, .int .i64 c.f1, .int .i64 c.f2] 94] ++ ([] : List Res)) wx.drew from Sp.drew HS.out)); clear HS hx0 hx1 hx2; (have HS := HS_); clear HS_
   cases b0 : inR c.f0 (-100) 100 with
   | false =>
    (have HB0 := A0_ ((coord_eq c.f0).trans (congrArg some b0))); (have HF := A0_ (HNO.out (by unfold inCb; rw [b0]; rfl))); clear HNO HNX b0
    refine start_ (n := 30) (S := fun w' => w'.cell? ⟨gc, 0, none⟩ = some (.int .i64 c.f0) ∧ w'.cell? ⟨gc, 1, none⟩ = some (.int .i64 c.f1) ∧ w'.cell? ⟨gc, 2, none⟩ = some (.int .i64 c.f2)) (ds := []) #[ff,ff,ff,ff,ff,ff,ff,ff,ff,ff,ff,ff,ff,ff,ff,ff,ff,ff,ff,ff,ff,ff,ff,ff,ff,ff,ff,ff,ff,ff] (by kernel_rfl) rfl rfl (⟨(cl_ HS 0 0 rfl).trans rfl, (cl_ HS 0 1 rfl).trans rfl, (cl_ HS 0 2 rfl).trans rfl⟩) (fun hHeld => ?_)
    refine with_tabW isoF.tab4 isoF.bits4 (fun HT_ HW_ => ?_)
    (generalize wx.drew = wD at HS hHeld ⊢); (refine on_ 0 (some 12) ?_); (refine tk_ 1 (some 13) ?_)
    refine o1_ 2 (some 14) (fun K hK => ?_)
    (refine gs_ Try.func101 #[.int .i64 c.f0] ?_); (refine (impl_isCoordinate.calls c.f0 false _ HB0.out).mono ?_); (rintro e wA11 ⟨rfl, hb⟩); (refine ⟨_, rfl, ?_⟩); (replace HS := A0_ (Sp.far HS.out hb.below)); clear hb
    refine hK.out _ _ (⟨(cl_ HS 0 0 rfl).trans rfl, (cl_ HS 0 1 rfl).trans rfl, (cl_ HS 0 2 rfl).trans rfl⟩) (fun hHeld => ?_)
    clear hK K; (refine nm_ (some 14) ?_); (refine on_ 3 (some 15) ?_); (refine on_ 4 (some 16) ?_); (refine of_ 5 (some 17) ?_); (refine of_ 6 (some 18) ?_); (refine of_ 7 (some 19) ?_); (refine of_ 8 (some 20) ?_); (refine on_ 9 (some 21) ?_); (refine on_ 10 (some 22) ?_); (refine of_ 11 (some 23) ?_); (refine of_ 12 (some 24) ?_); (refine of_ 13 (some 25) ?_); (refine of_ 14 (some 26) ?_); (refine on_ 15 (some 27) ?_); (refine on_ 16 (some 28) ?_); (refine of_ 17 (some 29) ?_); (refine of_ 18 (some 30) ?_); (refine of_ 19 (some 31) ?_); (refine of_ 20 (some 32) ?_); (refine of_ 21 (some 33) ?_); (refine of_ 22 (some 34) ?_); (refine of_ 23 (some 35) ?_); (refine of_ 24 (some 36) ?_); (refine of_ 25 (some 37) ?_); (refine of_ 26 (some 38) ?_); (refine of_ 27 (some 39) ?_); (refine of_ 28 (some 40) ?_); (refine on_ 29 (some 41) ?_); (refine dn_ ?_); go_wp2; go_ret; (exact ⟨by rw [HF.out]; rfl, HS.out.below⟩)
   | true =>
    (have HB0 := A0_ ((coord_eq c.f0).trans (congrArg some b0)))
    cases b1 : inR c.f1 (-100) 100 with
    | false =>
     (have HB1 := A0_ ((coord_eq c.f1).trans (congrArg some b1))); (have HF := A0_ (HNO.out (by unfold inCb; rw [b0, b1]; rfl))); clear HNO HNX b0 b1
     refine start_ (n := 30) (S := fun w' => w'.cell? ⟨gc, 0, none⟩ = some (.int .i64 c.f0) ∧ w'.cell? ⟨gc, 1, none⟩ = some (.int .i64 c.f1) ∧ w'.cell? ⟨gc, 2, none⟩ = some (.int .i64 c.f2)) (ds := []) #[ff,ff,ff,ff,ff,ff,ff,ff,ff,ff,ff,ff,ff,ff,ff,ff,ff,ff,ff,ff,ff,ff,ff,ff,ff,ff,ff,ff,ff,ff] (by kernel_rfl) rfl rfl (⟨(cl_ HS 0 0 rfl).trans rfl, (cl_ HS 0 1 rfl).trans rfl, (cl_ HS 0 2 rfl).trans rfl⟩) (fun hHeld => ?_)
     refine with_tabW isoF.tab4 isoF.bits4 (fun HT_ HW_ => ?_)
     (generalize wx.drew = wD at HS hHeld ⊢); (refine on_ 0 (some 12) ?_); (refine tk_ 1 (some 13) ?_)
     refine o1_ 2 (some 14) (fun K hK => ?_)
     (refine gs_ Try.func101 #[.int .i64 c.f0] ?_); (refine (impl_isCoordinate.calls c.f0 true _ HB0.out).mono ?_); (rintro e wA11 ⟨rfl, hb⟩); (refine ⟨_, rfl, ?_⟩); (replace HS := A0_ (Sp.far HS.out hb.below)); clear hb
     refine hK.out _ _ (⟨(cl_ HS 0 0 rfl).trans rfl, (cl_ HS 0 1 rfl).trans rfl, (cl_ HS 0 2 rfl).trans rfl⟩) (fun hHeld => ?_)
     clear hK K; (refine nm_ (some 14) ?_); (refine on_ 3 (some 15) ?_); (refine on_ 4 (some 16) ?_); (refine on_ 5 (some 17) ?_); (refine tk_ 6 (some 18) ?_)
     refine o1_ 7 (some 19) (fun K hK => ?_)
     (refine gs_ Try.func101 #[.int .i64 c.f1] ?_); (refine (impl_isCoordinate.calls c.f1 false _ HB1.out).mono ?_); (rintro e wA12 ⟨rfl, hb⟩); (refine ⟨_, rfl, ?_⟩); (replace HS := A0_ (Sp.far HS.out hb.below)); clear hb
     refine hK.out _ _ (⟨(cl_ HS 0 0 rfl).trans rfl, (cl_ HS 0 1 rfl).trans rfl, (cl_ HS 0 2 rfl).trans rfl⟩) (fun hHeld => ?_)
     clear hK K; (refine nm_ (some 19) ?_); (refine on_ 8 (some 20) ?_); (refine on_ 9 (some 21) ?_); (refine on_ 10 (some 22) ?_); (refine of_ 11 (some 23) ?_); (refine of_ 12 (some 24) ?_); (refine of_ 13 (some 25) ?_); (refine of_ 14 (some 26) ?_); (refine on_ 15 (some 27) ?_); (refine on_ 16 (some 28) ?_); (refine of_ 17 (some 29) ?_); (refine of_ 18 (some 30) ?_); (refine of_ 19 (some 31) ?_); (refine of_ 20 (some 32) ?_); (refine of_ 21 (some 33) ?_); (refine of_ 22 (some 34) ?_); (refine of_ 23 (some 35) ?_); (refine of_ 24 (some 36) ?_); (refine of_ 25 (some 37) ?_); (refine of_ 26 (some 38) ?_); (refine of_ 27 (some 39) ?_); (refine of_ 28 (some 40) ?_); (refine on_ 29 (some 41) ?_); (refine dn_ ?_); go_wp2; go_ret; (exact ⟨by rw [HF.out]; rfl, HS.out.below⟩)
    | true =>
     (have HB1 := A0_ ((coord_eq c.f1).trans (congrArg some b1)))
     cases b2 : inR c.f2 (-100) 100 with
     | false =>
      (have HB2 := A0_ ((coord_eq c.f2).trans (congrArg some b2))); (have HF := A0_ (HNO.out (by unfold inCb; rw [b0, b1, b2]; rfl))); clear HNO HNX b0 b1 b2
      refine start_ (n := 30) (S := fun w' => w'.cell? ⟨gc, 0, none⟩ = some (.int .i64 c.f0) ∧ w'.cell? ⟨gc, 1, none⟩ = some (.int .i64 c.f1) ∧ w'.cell? ⟨gc, 2, none⟩ = some (.int .i64 c.f2)) (ds := []) #[ff,ff,ff,ff,ff,ff,ff,ff,ff,ff,ff,ff,ff,ff,ff,ff,ff,ff,ff,ff,ff,ff,ff,ff,ff,ff,ff,ff,ff,ff] (by kernel_rfl) rfl rfl (⟨(cl_ HS 0 0 rfl).trans rfl, (cl_ HS 0 1 rfl).trans rfl, (cl_ HS 0 2 rfl).trans rfl⟩) (fun hHeld => ?_)
      refine with_tabW isoF.tab4 isoF.bits4 (fun HT_ HW_ => ?_)
      (generalize wx.drew = wD at HS hHeld ⊢); (refine on_ 0 (some 12) ?_); (refine tk_ 1 (some 13) ?_)
      refine o1_ 2 (some 14) (fun K hK => ?_)
      (refine gs_ Try.func101 #[.int .i64 c.f0] ?_); (refine (impl_isCoordinate.calls c.f0 true _ HB0.out).mono ?_); (rintro e wA11 ⟨rfl, hb⟩); (refine ⟨_, rfl, ?_⟩); (replace HS := A0_ (Sp.far HS.out hb.below)); clear hb
      refine hK.out _ _ (⟨(cl_ HS 0 0 rfl).trans rfl, (cl_ HS 0 1 rfl).trans rfl, (cl_ HS 0 2 rfl).trans rfl⟩) (fun hHeld => ?_)
      clear hK K; (refine nm_ (some 14) ?_); (refine on_ 3 (some 15) ?_); (refine on_ 4 (some 16) ?_); (refine on_ 5 (some 17) ?_); (refine tk_ 6 (some 18) ?_)
      refine o1_ 7 (some 19) (fun K hK => ?_)
      (refine gs_ Try.func101 #[.int .i64 c.f1] ?_); (refine (impl_isCoordinate.calls c.f1 true _ HB1.out).mono ?_); (rintro e wA12 ⟨rfl, hb⟩); (refine ⟨_, rfl, ?_⟩); (replace HS := A0_ (Sp.far HS.out hb.below)); clear hb
      refine hK.out _ _ (⟨(cl_ HS 0 0 rfl).trans rfl, (cl_ HS 0 1 rfl).trans rfl, (cl_ HS 0 2 rfl).trans rfl⟩) (fun hHeld => ?_)
      clear hK K; (refine nm_ (some 19) ?_); (refine on_ 8 (some 20) ?_); (refine on_ 9 (some 21) ?_); (refine on_ 10 (some 22) ?_); (refine on_ 11 (some 23) ?_); (refine tk_ 12 (some 24) ?_)
      refine o1_ 13 (some 25) (fun K hK => ?_)
      (refine gs_ Try.func101 #[.int .i64 c.f2] ?_); (refine (impl_isCoordinate.calls c.f2 false _ HB2.out).mono ?_); (rintro e wA13 ⟨rfl, hb⟩); (refine ⟨_, rfl, ?_⟩); (replace HS := A0_ (Sp.far HS.out hb.below)); clear hb
      refine hK.out _ _ (⟨(cl_ HS 0 0 rfl).trans rfl, (cl_ HS 0 1 rfl).trans rfl, (cl_ HS 0 2 rfl).trans rfl⟩) (fun hHeld => ?_)
      clear hK K; (refine nm_ (some 25) ?_); (refine on_ 14 (some 26) ?_); (refine on_ 15 (some 27) ?_); (refine on_ 16 (some 28) ?_); (refine of_ 17 (some 29) ?_); (refine of_ 18 (some 30) ?_); (refine of_ 19 (some 31) ?_); (refine of_ 20 (some 32) ?_); (refine of_ 21 (some 33) ?_); (refine of_ 22 (some 34) ?_); (refine of_ 23 (some 35) ?_); (refine of_ 24 (some 36) ?_); (refine of_ 25 (some 37) ?_); (refine of_ 26 (some 38) ?_); (refine of_ 27 (some 39) ?_); (refine of_ 28 (some 40) ?_); (refine on_ 29 (some 41) ?_); (refine dn_ ?_); go_wp2; go_ret; (exact ⟨by rw [HF.out]; rfl, HS.out.below⟩)
     | true =>
      (have HB2 := A0_ ((coord_eq c.f2).trans (congrArg some b2))); (have hin : inCb c (-100) 100 = true := by unfold inCb; rw [b0, b1, b2]; rfl); (rw [hin, Bool.true_and] at HNO HNX); clear b0 b1 b2 hin; (by_cases hi0 : i = 0)
      ·subst hi0; (have HN := A0_ (HNX.out rfl)); clear HNO HNX
       refine start_ (n := 30) (S := fun w' => w'.cell? ⟨gc, 0, none⟩ = some (.int .i64 c.f0) ∧ w'.cell? ⟨gc, 1, none⟩ = some (.int .i64 c.f1) ∧ w'.cell? ⟨gc, 2, none⟩ = some (.int .i64 c.f2)) (ds := []) #[ff,ff,ff,ff,ff,ff,ff,ff,ff,ff,ff,ff,ff,ff,ff,ff,ff,ff,ff,ff,ff,ff,ff,ff,ff,ff,ff,ff,ff,ff] (by kernel_rfl) rfl rfl (⟨(cl_ HS 0 0 rfl).trans rfl, (cl_ HS 0 1 rfl).trans rfl, (cl_ HS 0 2 rfl).trans rfl⟩) (fun hHeld => ?_)
       refine with_tabW isoF.tab4 isoF.bits4 (fun HT_ HW_ => ?_)
       (generalize wx.drew = wD at HS hHeld ⊢); (refine on_ 0 (some 12) ?_); (refine tk_ 1 (some 13) ?_)
       refine o1_ 2 (some 14) (fun K hK => ?_)
       (refine gs_ Try.func101 #[.int .i64 c.f0] ?_); (refine (impl_isCoordinate.calls c.f0 true _ HB0.out).mono ?_); (rintro e wA11 ⟨rfl, hb⟩); (refine ⟨_, rfl, ?_⟩); (replace HS := A0_ (Sp.far HS.out hb.below)); clear hb
       refine hK.out _ _ (⟨(cl_ HS 0 0 rfl).trans rfl, (cl_ HS 0 1 rfl).trans rfl, (cl_ HS 0 2 rfl).trans rfl⟩) (fun hHeld => ?_)
       clear hK K; (refine nm_ (some 14) ?_); (refine on_ 3 (some 15) ?_); (refine on_ 4 (some 16) ?_); (refine on_ 5 (some 17) ?_); (refine tk_ 6 (some 18) ?_)
       refine o1_ 7 (some 19) (fun K hK => ?_)
       (refine gs_ Try.func101 #[.int .i64 c.f1] ?_); (refine (impl_isCoordinate.calls c.f1 true _ HB1.out).mono ?_); (rintro e wA12 ⟨rfl, hb⟩); (refine ⟨_, rfl, ?_⟩); (replace HS := A0_ (Sp.far HS.out hb.below)); clear hb
       refine hK.out _ _ (⟨(cl_ HS 0 0 rfl).trans rfl, (cl_ HS 0 1 rfl).trans rfl, (cl_ HS 0 2 rfl).trans rfl⟩) (fun hHeld => ?_)
       clear hK K; (refine nm_ (some 19) ?_); (refine on_ 8 (some 20) ?_); (refine on_ 9 (some 21) ?_); (refine on_ 10 (some 22) ?_); (refine on_ 11 (some 23) ?_); (refine tk_ 12 (some 24) ?_)
       refine o1_ 13 (some 25) (fun K hK => ?_)
       (refine gs_ Try.func101 #[.int .i64 c.f2] ?_); (refine (impl_isCoordinate.calls c.f2 true _ HB2.out).mono ?_); (rintro e wA13 ⟨rfl, hb⟩); (refine ⟨_, rfl, ?_⟩); (replace HS := A0_ (Sp.far HS.out hb.below)); clear hb
       refine hK.out _ _ (⟨(cl_ HS 0 0 rfl).trans rfl, (cl_ HS 0 1 rfl).trans rfl, (cl_ HS 0 2 rfl).trans rfl⟩) (fun hHeld => ?_)
       clear hK K; (refine nm_ (some 25) ?_); (refine on_ 14 (some 26) ?_); (refine on_ 15 (some 27) ?_); (refine on_ 16 (some 28) ?_); (refine on_ 17 (some 29) ?_); (refine on_ 18 (some 30) ?_); (refine on_ 19 (some 31) ?_); (refine of_ 20 (some 32) ?_); (refine of_ 21 (some 33) ?_); (refine of_ 22 (some 34) ?_); (refine of_ 23 (some 35) ?_); (refine of_ 24 (some 36) ?_); (refine of_ 25 (some 37) ?_); (refine of_ 26 (some 38) ?_); (refine of_ 27 (some 39) ?_); (refine on_ 28 (some 40) ?_); (refine on_ 29 (some 41) ?_); (refine dn_ ?_); go_wp2; (replace HS := A0_ (show Sp w [] _ from Sp.tail HS.out)); (go_roundg k1)
       case measure => omega
       case rel =>
        (exact ⟨1, rfl, ⟨by have := HCI.out; omega, by have := HX.out; omega, HN.out⟩, HS⟩)
      ·(have d0 : decide (0 < i) = true := decide_eq_true (by omega)); (have d1 : (0 < i) = True := eq_true (by omega)); (have d2 : decide ((0 : Int) < (i : Int)) = true := decide_eq_true (by omega)); (have d3 : ((0 : Int) < (i : Int)) = True := eq_true (by omega)); (have e1 : wrap64 ((i : Int) - 1) = ((i - 1 : Nat) : Int) := by rw [wrap_id (by omega) (by have := HZ.out; have := HCI.out; omega)]; omega); (have p0 : (0 ≤ ((i - 1 : Nat) : Int)) = True := eq_true (by omega)); (have p1 : (((i - 1 : Nat) : Int) < (l.length : Int)) = True := eq_true (by have := HCI.out; omega)); (have p2 : (i - 1 < l.length) = True := eq_true (by have := HCI.out; omega)); (rw [decide_eq_false hi0, Bool.false_or] at HNO HNX); (obtain ⟨ad2, e, hx0, hx1, hx2⟩ := at_T94 HR0.out ((i - 1 : Nat) : Int) (by omega) (by have := HCI.out; omega)); (injection e with e); subst e; (rw [show rd_T94 l ((i - 1 : Nat) : Int) = cAt l (i - 1) from rfl] at hx0 hx1 hx2); (rw [Int.toNat_natCast] at hx0 hx1 hx2); (obtain ⟨q, hq⟩ : ∃ q, q = cAt l (i - 1) := ⟨_, rfl⟩); (rw [← hq] at hx0 hx1 hx2 HNO HNX); (have HQ0 := A0_ hx0); (have HQ1 := A0_ hx1); (have HQ2 := A0_ hx2); (obtain ⟨t, ht, htl⟩ := compare_at q c); (have HCM := A0_ ht); (have HTL := A0_ htl); clear hx0 hx1 hx2 hq ht htl hi0
       refine start_ (n := 30) (S := fun w' => w'.cell? ⟨gc, 0, none⟩ = some (.int .i64 c.f0) ∧ w'.cell? ⟨gc, 1, none⟩ = some (.int .i64 c.f1) ∧ w'.cell? ⟨gc, 2, none⟩ = some (.int .i64 c.f2) ∧ w'.cell? (adl.add ((i - 1) * 3)) = some (.int .i64 q.f0) ∧ w'.cell? ⟨(adl.add ((i - 1) * 3)).block, (adl.add ((i - 1) * 3)).off + 1, none⟩ = some (.int .i64 q.f1) ∧ w'.cell? ⟨(adl.add ((i - 1) * 3)).block, (adl.add ((i - 1) * 3)).off + 2, none⟩ = some (.int .i64 q.f2)) (ds := []) #[ff,ff,ff,ff,ff,ff,ff,ff,ff,ff,ff,ff,ff,ff,ff,ff,ff,ff,ff,ff,ff,ff,ff,ff,ff,ff,ff,ff,ff,ff] (by kernel_rfl) rfl rfl (⟨(cl_ HS 0 0 rfl).trans rfl, (cl_ HS 0 1 rfl).trans rfl, (cl_ HS 0 2 rfl).trans rfl, pw_cell_below HS.out.below HQ0.out, pw_cell_below HS.out.below HQ1.out, pw_cell_below HS.out.below HQ2.out⟩) (fun hHeld => ?_)
       refine with_tabW isoF.tab4 isoF.bits4 (fun HT_ HW_ => ?_)
       (generalize wx.drew = wD at HS hHeld ⊢); (refine on_ 0 (some 12) ?_); (refine tk_ 1 (some 13) ?_)
       refine o1_ 2 (some 14) (fun K hK => ?_)
       (refine gs_ Try.func101 #[.int .i64 c.f0] ?_); (refine (impl_isCoordinate.calls c.f0 true _ HB0.out).mono ?_); (rintro e wA11 ⟨rfl, hb⟩); (refine ⟨_, rfl, ?_⟩); (replace HS := A0_ (Sp.far HS.out hb.below)); clear hb
       refine hK.out _ _ (⟨(cl_ HS 0 0 rfl).trans rfl, (cl_ HS 0 1 rfl).trans rfl, (cl_ HS 0 2 rfl).trans rfl, pw_cell_below HS.out.below HQ0.out, pw_cell_below HS.out.below HQ1.out, pw_cell_below HS.out.below HQ2.out⟩) (fun hHeld => ?_)
       clear hK K; (refine nm_ (some 14) ?_); (refine on_ 3 (some 15) ?_); (refine on_ 4 (some 16) ?_); (refine on_ 5 (some 17) ?_); (refine tk_ 6 (some 18) ?_)
       refine o1_ 7 (some 19) (fun K hK => ?_)
       (refine gs_ Try.func101 #[.int .i64 c.f1] ?_); (refine (impl_isCoordinate.calls c.f1 true _ HB1.out).mono ?_); (rintro e wA12 ⟨rfl, hb⟩); (refine ⟨_, rfl, ?_⟩); (replace HS := A0_ (Sp.far HS.out hb.below)); clear hb
       refine hK.out _ _ (⟨(cl_ HS 0 0 rfl).trans rfl, (cl_ HS 0 1 rfl).trans rfl, (cl_ HS 0 2 rfl).trans rfl, pw_cell_below HS.out.below HQ0.out, pw_cell_below HS.out.below HQ1.out, pw_cell_below HS.out.below HQ2.out⟩) (fun hHeld => ?_)
       clear hK K; (refine nm_ (some 19) ?_); (refine on_ 8 (some 20) ?_); (refine on_ 9 (some 21) ?_); (refine on_ 10 (some 22) ?_); (refine on_ 11 (some 23) ?_); (refine tk_ 12 (some 24) ?_)
       refine o1_ 13 (some 25) (fun K hK => ?_)
       (refine gs_ Try.func101 #[.int .i64 c.f2] ?_); (refine (impl_isCoordinate.calls c.f2 true _ HB2.out).mono ?_); (rintro e wA13 ⟨rfl, hb⟩); (refine ⟨_, rfl, ?_⟩); (replace HS := A0_ (Sp.far HS.out hb.below)); clear hb
       refine hK.out _ _ (⟨(cl_ HS 0 0 rfl).trans rfl, (cl_ HS 0 1 rfl).trans rfl, (cl_ HS 0 2 rfl).trans rfl, pw_cell_below HS.out.below HQ0.out, pw_cell_below HS.out.below HQ1.out, pw_cell_below HS.out.below HQ2.out⟩) (fun hHeld => ?_)
       clear hK K; (refine nm_ (some 25) ?_); (refine on_ 14 (some 26) ?_); (refine on_ 15 (some 27) ?_); (refine on_ 16 (some 28) ?_); (refine on_ 17 (some 29) ?_); (refine on_ 18 (some 30) ?_); (refine on_ 19 (some 31) ?_); (refine on_ 20 (some 32) ?_); (refine on_ 21 (some 33) ?_); (refine on_ 22 (some 34) ?_); (refine on_ 23 (some 35) ?_); (refine tk_ 24 (some 36) ?_); (refine tk_ 25 (some 37) ?_)
       refine o1_ 26 (some 38) (fun K hK => ?_)
       (refine gs_ Try.func102 #[.agg #[.int .i64 q.f0, .int .i64 q.f1, .int .i64 q.f2], .agg #[.int .i64 c.f0, .int .i64 c.f1, .int .i64 c.f2]] ?_); (refine (impl_compareCubes.calls q.f0 q.f1 q.f2 c.f0 c.f1 c.f2 t _ HCM.out).mono ?_); (rintro e wA14 ⟨rfl, hb⟩); (refine ⟨_, rfl, ?_⟩); (replace HS := A0_ (Sp.far HS.out hb)); clear hb
       refine hK.out _ _ (⟨(cl_ HS 0 0 rfl).trans rfl, (cl_ HS 0 1 rfl).trans rfl, (cl_ HS 0 2 rfl).trans rfl, pw_cell_below HS.out.below HQ0.out, pw_cell_below HS.out.below HQ1.out, pw_cell_below HS.out.below HQ2.out⟩) (fun hHeld => ?_)
       clear hK K; (refine nm_ (some 38) ?_); (refine on_ 27 (some 39) ?_); (refine on_ 28 (some 40) ?_); (refine on_ 29 (some 41) ?_); (refine dn_ ?_)
       cases hls : lessC q c with
       | true =>
        (have HN := A0_ (HNX.out hls)); (have ht0 : decide (0 ≤ t) = false := by have h := HTL.out; rw [hls] at h; exact h); (have ht1 : (0 ≤ t) = False := eq_false (of_decide_eq_false ht0)); (have ht2 : (t < 0) = True := eq_true (by have := of_decide_eq_false ht0; omega)); clear hls; (rw [ht0]); go_wp2; (replace HS := A0_ (show Sp w [] _ from Sp.tail HS.out)); (go_roundg k1)
        case measure => omega
        case rel =>
         (rw [HW.out]); (exact ⟨i + 1, rfl, ⟨by have := HCI.out; omega, by have := HX.out; omega, HN.out⟩, HS⟩)
       | false =>
        (have HF := A0_ (HNO.out hls)); (have ht0 : decide (0 ≤ t) = true := by have h := HTL.out; rw [hls] at h; exact h); (have ht1 : (0 ≤ t) = True := eq_true (of_decide_eq_true ht0)); (have ht2 : (t < 0) = False := eq_false (by have := of_decide_eq_true ht0; omega)); clear hls; (rw [ht0]); go_wp2; go_ret; (exact ⟨by rw [HF.out]; rfl, HS.out.below⟩)
  ·(have ci0 : decide (i < l.length) = false := decide_eq_false ci); (have ci1 : (i < l.length) = False := eq_false ci); (have hi : i = l.length := by have := HX.out; omega); (have HF := A0_ (solP_end l (hi ▸ HX.out.2.2))); (have HF2 := A0_ (inR_len l.length)); clear ci hi; go_wp2
   ·go_ret; (exact ⟨by rw [HF.out]; unfold inR; rw [decide_eq_true (show (1 : Int) ≤ (l.length : Int) by omega), Bool.true_and]; rfl, HS.out.below⟩)
   ·go_ret; (exact ⟨by rw [HF.out]; unfold inR; rw [decide_eq_false (show ¬ (1 : Int) ≤ (l.length : Int) by omega), Bool.false_and]; rfl, HS.out.below⟩)
section
attribute [local go_sem] max2_int min2_int max_two min_two max_three min_three max_four min_four
def impl_cubesAround.f (a0_0 : Int) (a0_1 : Int) (a0_2 : Int) : Option ((List (S94))) := some (([(⟨a0_0, a0_1, wrap64 (a0_2 - 1)⟩ : S94), (⟨a0_0, wrap64 (a0_1 - 1), a0_2⟩ : S94), (⟨wrap64 (a0_0 - 1), a0_1, a0_2⟩ : S94), (⟨wrap64 (a0_0 + 1), a0_1, a0_2⟩ : S94), (⟨a0_0, wrap64 (a0_1 + 1), a0_2⟩ : S94), (⟨a0_0, a0_1, wrap64 (a0_2 + 1)⟩ : S94)] : List (S94)))
set_option maxHeartbeats 8000000 in
set_option maxRecDepth 100000 in
theorem impl_cubesAround.calls (a0_0 : Int) (a0_1 : Int) (a0_2 : Int) (r : List (S94)) (w : World) (h : impl_cubesAround.f a0_0 a0_1 a0_2 = some r) :
    Calls Try.prog 103 #[.agg #[.int .i64 a0_0, .int .i64 a0_1, .int .i64 a0_2]] w fun e w' => ∃ v0_ : Value, e = .returned (v0_) ∧ Kd.R k94 94 w' w.heap.size (fun _ => True) v0_ r ∧ Below w.heap.size w w' := by
 (have hu94 := Try.underlying94); (have HB := A0_ (Below.refl w.heap.size w)); (have H : (some (([(⟨a0_0, a0_1, wrap64 (a0_2 - 1)⟩ : S94), (⟨a0_0, wrap64 (a0_1 - 1), a0_2⟩ : S94), (⟨wrap64 (a0_0 - 1), a0_1, a0_2⟩ : S94), (⟨wrap64 (a0_0 + 1), a0_1, a0_2⟩ : S94), (⟨a0_0, wrap64 (a0_1 + 1), a0_2⟩ : S94), (⟨a0_0, a0_1, wrap64 (a0_2 + 1)⟩ : S94)] : List (S94)))) = some r := h); clear h; (obtain ⟨y329, hy329⟩ : ∃ y_ : List (S94), y_ = (([(⟨a0_0, a0_1, wrap64 (a0_2 - 1)⟩ : S94), (⟨a0_0, wrap64 (a0_1 - 1), a0_2⟩ : S94), (⟨wrap64 (a0_0 - 1), a0_1, a0_2⟩ : S94), (⟨wrap64 (a0_0 + 1), a0_1, a0_2⟩ : S94), (⟨a0_0, wrap64 (a0_1 + 1), a0_2⟩ : S94), (⟨a0_0, a0_1, wrap64 (a0_2 + 1)⟩ : S94)] : List (S94))) := ⟨_, rfl⟩); (replace H : (some y329) = some r := by first | (rw [hy329]; with_reducible exact H) | (have H2_ := (Option.bind_some _ _).symm.trans H; rw [hy329]; with_reducible exact H2_) | (have H2_ := (Option.bind_some _ _).symm.trans H; with_reducible exact H2_) | with_reducible exact H | (rw [hy329]; exact H) | exact H); (have Ny329 := A0_ hy329); clear hy329; (obtain rfl := Option.some.inj H); (go_enter Try.func103, Try.ntmps103)
 go_wp2_with (first | ((with_reducible refine gate_dst (N := 1) rfl ?_); refine be_ (N := 1) (cs := #[.int .i64 a0_0, .int .i64 a0_1, .int .i64 a0_2]) (t := 94) ?_; intro gb328 hg w2 hbox hb; have n0_ := A0_ (below_step bw_ hb); have n1_ := A0_ (hbox); have n2_ := A0_ ((by rw [hg]; exact (below_size bw_) : w.heap.size ≤ gb328)); have n3_ := A0_ ((by rw [hg]; exact (below_size bw_) : w.heap.size ≤ gb328)); clear HB; have HB := n0_; have BK328 := n1_; have GW328 := n2_; have GE328 := n3_; clear n0_ n1_ n2_ n3_; clear hb hbox hg; have hcz3_0 : w2.cell? ⟨gb328, 0, none⟩ = some (.int .i64 a0_0) := (blk_cell BK328.out 0).trans rfl; have hcz3_1 : w2.cell? ⟨gb328, 1, none⟩ = some (.int .i64 a0_1) := (blk_cell BK328.out 1).trans rfl; have hcz3_2 : w2.cell? ⟨gb328, 2, none⟩ = some (.int .i64 a0_2) := (blk_cell BK328.out 2).trans rfl; have hfz3_0 := blk_frozen BK328.out 0; have hfz3_1 := blk_frozen BK328.out 1; have hfz3_2 := blk_frozen BK328.out 2) | ((with_reducible refine gate_dst (N := 51) rfl ?_); refine Kd.R_lit k94 _ 94 ?hg (N := 51) ?hd (xs := ([(⟨a0_0, a0_1, wrap64 (a0_2 - 1)⟩ : S94), (⟨a0_0, wrap64 (a0_1 - 1), a0_2⟩ : S94), (⟨wrap64 (a0_0 - 1), a0_1, a0_2⟩ : S94), (⟨wrap64 (a0_0 + 1), a0_1, a0_2⟩ : S94), (⟨a0_0, wrap64 (a0_1 + 1), a0_2⟩ : S94), (⟨a0_0, a0_1, wrap64 (a0_2 + 1)⟩ : S94)] : List (S94))) (inner := [.int .i64 a0_0, .int .i64 a0_1, .int .i64 (wrap64 (a0_2 - 1)), .int .i64 a0_0, .int .i64 (wrap64 (a0_1 - 1)), .int .i64 a0_2, .int .i64 (wrap64 (a0_0 - 1)), .int .i64 a0_1, .int .i64 a0_2, .int .i64 (wrap64 (a0_0 + 1)), .int .i64 a0_1, .int .i64 a0_2, .int .i64 a0_0, .int .i64 (wrap64 (a0_1 + 1)), .int .i64 a0_2, .int .i64 a0_0, .int .i64 a0_1, .int .i64 (wrap64 (a0_2 + 1))]) (ok := fun _ => True) (okp := fun _ => True) ?hr ?hp (fun _ hk => hk) trivial (Below.refl _ _) (Nat.le_refl _) (by simp) ?_; (case hd => rfl); (case hg => rfl); (case hr => first | (go_simp; done) | (go_simp; rfl)); (case hp => exact (Reps.c3 (show Kd.M k94 _ _ _ (⟨a0_0, a0_1, wrap64 (a0_2 - 1)⟩ : S94) [.int .i64 a0_0, .int .i64 a0_1, .int .i64 (wrap64 (a0_2 - 1))] from (k94_mkM _ _ _ (⟨a0_0, a0_1, wrap64 (a0_2 - 1)⟩ : S94) )) (Reps.c3 (show Kd.M k94 _ _ _ (⟨a0_0, wrap64 (a0_1 - 1), a0_2⟩ : S94) [.int .i64 a0_0, .int .i64 (wrap64 (a0_1 - 1)), .int .i64 a0_2] from (k94_mkM _ _ _ (⟨a0_0, wrap64 (a0_1 - 1), a0_2⟩ : S94) )) (Reps.c3 (show Kd.M k94 _ _ _ (⟨wrap64 (a0_0 - 1), a0_1, a0_2⟩ : S94) [.int .i64 (wrap64 (a0_0 - 1)), .int .i64 a0_1, .int .i64 a0_2] from (k94_mkM _ _ _ (⟨wrap64 (a0_0 - 1), a0_1, a0_2⟩ : S94) )) (Reps.c3 (show Kd.M k94 _ _ _ (⟨wrap64 (a0_0 + 1), a0_1, a0_2⟩ : S94) [.int .i64 (wrap64 (a0_0 + 1)), .int .i64 a0_1, .int .i64 a0_2] from (k94_mkM _ _ _ (⟨wrap64 (a0_0 + 1), a0_1, a0_2⟩ : S94) )) (Reps.c3 (show Kd.M k94 _ _ _ (⟨a0_0, wrap64 (a0_1 + 1), a0_2⟩ : S94) [.int .i64 a0_0, .int .i64 (wrap64 (a0_1 + 1)), .int .i64 a0_2] from (k94_mkM _ _ _ (⟨a0_0, wrap64 (a0_1 + 1), a0_2⟩ : S94) )) (Reps.c3 (show Kd.M k94 _ _ _ (⟨a0_0, a0_1, wrap64 (a0_2 + 1)⟩ : S94) [.int .i64 a0_0, .int .i64 a0_1, .int .i64 (wrap64 (a0_2 + 1))] from (k94_mkM _ _ _ (⟨a0_0, a0_1, wrap64 (a0_2 + 1)⟩ : S94) )) (Reps.none _ _)))))))); intro v330 w4 ho5 hb hg_ hnew_; clear hg_ hnew_; (first | rw [← Ny329.out] at ho5 | (simp only [Int.reduceToNat] at ho5; rw [← Ny329.out] at ho5)); have n0_ := A0_ (Kd.R_lower (Kd.R_newB ho5 (g := gb328) (o := .cells #[.int .i64 a0_0, .int .i64 a0_1, .int .i64 a0_2] 94 (0, 0)) (bk_ BK328)) (below_size bx_)); have n1_ := A0_ (blk_below (g := gb328) (o := .cells #[.int .i64 a0_0, .int .i64 a0_1, .int .i64 a0_2] 94 (0, 0)) (bk_ BK328) hb); have n2_ := A0_ (below_step bx_ hb); clear BK328; clear HB; have HO331 := n0_; have BK328 := n1_; have HB := n2_; clear n0_ n1_ n2_; clear hb ho5))
 go_ret
 exact ⟨_, by first | rfl | (simp [errW_none, errW_some] <;> rfl) | (simp [*, errW_none, errW_some] <;> rfl), by (with_reducible repeat (first | apply Ra_ | apply Rn_ | apply Rd_)); exact Kd.R_mono HO331.out (fun _ hk => trivial), bx_⟩
end
section
attribute [local go_sem] max2_int min2_int max_two min_two max_three min_three max_four min_four
mutual
def impl_connectedCubes.l0 : Nat → List (S94) → List (S94) → Int → Option (Bool)
  | 0, _, _, _ => none
  | k + 1, x0, x3, x4 => if x4 < (x3.length : Int) then (if 0 ≤ x4 then ((impl_cubesAround.f ((rd_T94 x3 x4).f0) ((rd_T94 x3 x4).f1) ((rd_T94 x3 x4).f2)).bind fun t341 => (impl_connectedCubes.l1 k x0 x3 x4 t341 (t341.length : Int) 0)) else (none)) else (some ((x3.length : Int) == (x0.length : Int)))
def impl_connectedCubes.l1 : Nat → List (S94) → List (S94) → Int → List (S94) → Int → Int → Option (Bool)
  | 0, _, _, _, _, _, _ => none
  | k + 1, x0, x3, x4, x21, x22, x23 => if x23 < x22 then (if 0 ≤ x23 then (if x23 < (x21.length : Int) then ((impl_Cube_104.f k x0 ((rd_T94 x21 x23).f0) ((rd_T94 x21 x23).f1) ((rd_T94 x21 x23).f2)).bind fun t346 => (if t346 = true then ((impl_Cube_104.f k x3 ((rd_T94 x21 x23).f0) ((rd_T94 x21 x23).f1) ((rd_T94 x21 x23).f2)).bind fun t347 => (if t347 = true then (impl_connectedCubes.l1 k x0 x3 x4 x21 x22 (wrap64 (x23 + 1))) else (if x3.length < 5864062014805 then (impl_connectedCubes.l1 k x0 (x3 ++ [(⟨(rd_T94 x21 x23).f0, (rd_T94 x21 x23).f1, (rd_T94 x21 x23).f2⟩ : S94)]) x4 x21 x22 (wrap64 (x23 + 1))) else (none)))) else (impl_connectedCubes.l1 k x0 x3 x4 x21 x22 (wrap64 (x23 + 1))))) else (none)) else (none)) else (impl_connectedCubes.l0 k x0 x3 (wrap64 (x4 + 1)))
end
def impl_connectedCubes.f (k : Nat) (l0 : List (S94)) : Option (Bool) := if 0 < (l0.length : Int) then (impl_connectedCubes.l0 k l0 (([(⟨(rd_T94 l0 0).f0, (rd_T94 l0 0).f1, (rd_T94 l0 0).f2⟩ : S94)] : List (S94))) 0) else (none)
set_option maxHeartbeats 8000000 in
set_option maxRecDepth 100000 in
theorem impl_connectedCubes.calls (k : Nat) (A0 : Option Addr) (c0 : Nat) (l0 : List (S94)) (r : Bool) (w : World) (hr0 : Kd.C k94 w A0 l0.length l0) (hc0 : l0.length ≤ c0) (h : impl_connectedCubes.f k l0 = some r) :
    Calls Try.prog 73 #[.slice A0 l0.length c0] w fun e w' => e = .returned (.bool r) ∧ Below w.heap.size w w' := by
 (have hu94 := Try.underlying94); (have HR0 := A0_ hr0); (have HC0 := A0_ hc0); clear hr0 hc0; (have HB := A0_ (Below.refl w.heap.size w)); (have H : (if 0 < (l0.length : Int) then (impl_connectedCubes.l0 k l0 (([(⟨(rd_T94 l0 0).f0, (rd_T94 l0 0).f1, (rd_T94 l0 0).f2⟩ : S94)] : List (S94))) 0) else (none)) = some r := h); clear h; (by_cases c2 : 0 < (l0.length : Int))
 ·(rw [if_pos c2] at H); (have c2b0 : decide (0 < (l0.length : Int)) = true := decide_eq_true c2); (have c2b1 : decide (0 < l0.length) = true := decide_eq_true (by omega)); clear c2; (obtain ⟨y337, hy337⟩ : ∃ y_ : List (S94), y_ = (([(⟨(rd_T94 l0 0).f0, (rd_T94 l0 0).f1, (rd_T94 l0 0).f2⟩ : S94)] : List (S94))) := ⟨_, rfl⟩); (replace H : (impl_connectedCubes.l0 k l0 y337 0) = some r := by first | (rw [hy337]; with_reducible exact H) | (have H2_ := (Option.bind_some _ _).symm.trans H; rw [hy337]; with_reducible exact H2_) | (have H2_ := (Option.bind_some _ _).symm.trans H; with_reducible exact H2_) | with_reducible exact H | (rw [hy337]; exact H) | exact H); (have Ny337 := A0_ hy337); clear hy337; (have H' := A0_ H); clear H; (have p336 : 0 ≤ (0 : Int) := (by omega)); (have q336 : 0 < (l0.length : Int) := of_decide_eq_true as_); (obtain ⟨ad336, e336, hx336_0, hx336_1, hx336_2⟩ := at_T94 HR0.out 0 p336 q336); (cases e336); (have qi336 : (0 < l0.length) = True := eq_true (by omega)); ((try rw [show ((0 : Int)).toNat = 0 from rfl] at hx336_0)); ((try rw [show 0 * 3 = 0 from rfl] at hx336_0)); ((try rw [Addr.add_zero'] at hx336_0)); ((try rw [show ((0 : Int)).toNat = 0 from rfl] at hx336_1)); ((try rw [show 0 * 3 = 0 from rfl] at hx336_1)); ((try rw [Addr.add_zero'] at hx336_1)); ((try rw [show ((0 : Int)).toNat = 0 from rfl] at hx336_2)); ((try rw [show 0 * 3 = 0 from rfl] at hx336_2)); ((try rw [Addr.add_zero'] at hx336_2)); (replace p336 := eq_true p336); (replace q336 := eq_true q336); (go_enter Try.func73, Try.ntmps73)
  go_wp2_with (first | ((with_reducible refine gate_dst (N := 10) rfl ?_); refine Kd.R_lit k94 _ 94 ?hg (N := 10) ?hd (xs := ([(⟨(rd_T94 l0 0).f0, (rd_T94 l0 0).f1, (rd_T94 l0 0).f2⟩ : S94)] : List (S94))) (inner := [.int .i64 ((rd_T94 l0 0).f0), .int .i64 ((rd_T94 l0 0).f1), .int .i64 ((rd_T94 l0 0).f2)]) (ok := fun _ => True) (okp := fun _ => True) ?hr ?hp (fun _ hk => hk) trivial (Below.refl _ _) (Nat.le_refl _) (by simp) ?_; (case hd => rfl); (case hg => rfl); (case hr => first | (go_simp; done) | (go_simp; rfl)); (case hp => exact (Reps.c3 (show Kd.M k94 _ _ _ (⟨(rd_T94 l0 0).f0, (rd_T94 l0 0).f1, (rd_T94 l0 0).f2⟩ : S94) [.int .i64 ((rd_T94 l0 0).f0), .int .i64 ((rd_T94 l0 0).f1), .int .i64 ((rd_T94 l0 0).f2)] from (k94_mkM _ _ _ (⟨(rd_T94 l0 0).f0, (rd_T94 l0 0).f1, (rd_T94 l0 0).f2⟩ : S94) )) (Reps.none _ _))); intro v338 w3 ho4 hb hg_ hnew_; clear hg_ hnew_; (first | rw [← Ny337.out] at ho4 | (simp only [Int.reduceToNat] at ho4; rw [← Ny337.out] at ho4)); have n0_ := A0_ (Kd.R_lower ho4 (below_size bw_)); have n1_ := A0_ (below_step bw_ hb); clear HB; have HO339 := n0_; have HB := n1_; clear n0_ n1_; clear hb ho4))
  go_loopg [3, 4] k (fun kq v3 v4 w' => ∃ (x3_1 : List (S94)) (x4_1 : Int), v4 = .int .i64 x4_1 ∧ Aside0 (impl_connectedCubes.l0 kq l0 x3_1 x4_1 = some r) ∧ Aside0 (kq ≤ k) ∧ Aside0 (Kd.R k94 94 w' w.heap.size (fun _ => True) v3 x3_1) ∧ Aside0 (Below w.heap.size w w'))
  case atStart => exact ⟨(y337), (0), (by first | rfl | (simp; done) | (simp [*]; done)), H', ⟨Nat.le_refl _⟩, ⟨by (with_reducible repeat (first | apply Ra_ | apply Rn_ | apply Rd_)); exact HO339.out⟩, ⟨by repeat (first | (with_reducible first | exact HB.out | apply ba_ | apply bn_ | apply bd_) | exact HB.out)⟩⟩
  case round =>
   clear H'; (try clear c2); (try clear c2b0); (try clear c2b1); (try clear p2); (try clear c3); (try clear p3); (try clear q3); (try clear hx3); (try clear qi3); (try clear hx336_0); (try clear hx336_1); (try clear hx336_2); (try clear p336); (try clear q336); (obtain ⟨x3_1, x4_1, rfl, HA, HK1, HO_3, HB⟩ := hrel)
   cases gk with
   | zero => exact absurd HA.out (by simp [impl_connectedCubes.l0])
   | succ k1 =>
    (have H := HA.out); clear HA; (simp only [impl_connectedCubes.l0] at H); (by_cases c5 : x4_1 < (x3_1.length : Int))
    ·(rw [if_pos c5] at H); (have c5b0 : decide (x4_1 < (x3_1.length : Int)) = true := decide_eq_true c5); clear c5; (by_cases c6 : 0 ≤ x4_1)
     ·(rw [if_pos c6] at H); (have c6b0 : decide (0 ≤ x4_1) = true := decide_eq_true c6); clear c6; (replace H := Option.bind_eq_some_iff.mp H); (obtain ⟨t341, A70, H⟩ := H); (try dsimp only at H); (have A7 := A0_ A70); clear A70; (have H0_ := A0_ H); clear H; (obtain ⟨Ao8, co8, eo8⟩ := Kd.R_slice HO_3.out); subst eo8; (have p340 : 0 ≤ (x4_1 : Int) := of_decide_eq_true as_); (have q340 : x4_1 < (x3_1.length : Int) := of_decide_eq_true as_); (obtain ⟨ad340, e340, hx340_0, hx340_1, hx340_2⟩ := at_T94 (Kd.R_reads' HO_3.out).2.2 x4_1 p340 q340); (cases e340); (replace p340 := eq_true p340); (replace q340 := eq_true q340); (go_wp2_with (first | ((with_reducible refine gate_callee (f := 103) rfl ?_); refine gl_ (some 21) Try.func103 #[.agg #[.int .i64 ((rd_T94 x3_1 x4_1).f0), .int .i64 ((rd_T94 x3_1 x4_1).f1), .int .i64 ((rd_T94 x3_1 x4_1).f2)]] ?_; (with_reducible refine (impl_cubesAround.calls ((rd_T94 x3_1 x4_1).f0) ((rd_T94 x3_1 x4_1).f1) ((rd_T94 x3_1 x4_1).f2) t341 _ A7.out).mono ?_); rintro e w9 ⟨v342, rfl, ho0, hb⟩; refine ⟨_, rfl, ?_⟩; have n0_ := A0_ (Kd.R_elder' (by (with_reducible repeat (first | apply Ra_ | apply Rn_ | apply Rd_)); exact HO_3.out) (Kd.R_base ho0) hb); have n1_ := A0_ (Kd.R_lower (Kd.R_new' ho0 (Kd.R_lt (by (with_reducible repeat (first | apply Ra_ | apply Rn_ | apply Rd_)); exact HO_3.out))) (below_size bw_)); have n2_ := A0_ (below_step bw_ hb); clear HO_3; clear HB; have HO_3 := n0_; have HO343 := n1_; have HB := n2_; clear n0_ n1_ n2_; (try clear hb); (try clear hb2); (try clear hk); (try clear hi); (try clear ho0); refine Stop0.out ?_))); (refine Stop0.mk ?_); (have H := H0_.out); clear H0_; (have H' := A0_ H); clear H; (obtain ⟨Ao10, co10, eo10⟩ := Kd.R_slice HO343.out); subst eo10; go_wp2
      go_loopg [3, 23] k1 (fun kq v3 v23 w' => ∃ (x3_2 : List (S94)) (x23_2 : Int), v23 = .int .i64 x23_2 ∧ Aside0 (impl_connectedCubes.l1 kq l0 x3_2 x4_1 t341 (t341.length : Int) x23_2 = some r) ∧ Aside0 (kq ≤ k1) ∧ Aside0 (Kd.R k94 94 w' w.heap.size (fun k_ => some k_ ≠ ((.slice Ao10 t341.length co10) : Value).ownBlock) v3 x3_2) ∧ Aside0 (Kd.R k94 94 w' w.heap.size (fun k_ => some k_ ≠ (v3 : Value).ownBlock) (.slice Ao10 t341.length co10) t341) ∧ Aside0 (Below w.heap.size w w'))
      case atStart => exact ⟨(x3_1), (0), (by first | rfl | (simp; done) | (simp [*]; done)), H', ⟨Nat.le_refl _⟩, ⟨by (with_reducible repeat (first | apply Ra_ | apply Rn_ | apply Rd_)); exact Kd.R_mono HO_3.out (fun _ hk => hk.2)⟩, ⟨by (with_reducible repeat (first | apply Ra_ | apply Rn_ | apply Rd_)); exact Kd.R_mono HO343.out (fun _ hk => hk.2)⟩, ⟨by repeat (first | (with_reducible first | exact HB.out | apply ba_ | apply bn_ | apply bd_) | exact HB.out)⟩⟩
      case round =>
       clear H'; (try clear c1); (try clear c2); (try clear c2b0); (try clear c2b1); (try clear p2); (try clear c3); (try clear p3); (try clear q3); (try clear hx3); (try clear qi3); (try clear c5); (try clear c5b0); (try clear c6); (try clear c6b0); (try clear c7); (try clear c10); (try clear hx336_0); (try clear hx336_1); (try clear hx336_2); (try clear hx340_0); (try clear hx340_1); (try clear hx340_2); (try clear p2); (try clear p3); (try clear p336); (try clear p340); (try clear q3); (try clear q336); (try clear q340); (obtain ⟨x3_2, x23_2, rfl, HA, HK2, HO_3, HO_21, HB⟩ := hrel)
       cases gk with
       | zero => exact absurd HA.out (by simp [impl_connectedCubes.l1])
       | succ k2 =>
        (have H := HA.out); clear HA; (simp only [impl_connectedCubes.l1] at H); (by_cases c11 : x23_2 < (t341.length : Int))
        ·(rw [if_pos c11] at H); (have c11b0 : decide (x23_2 < (t341.length : Int)) = true := decide_eq_true c11); clear c11; (by_cases c12 : 0 ≤ x23_2)
         ·(rw [if_pos c12] at H); (have c12b0 : decide (0 ≤ x23_2) = true := decide_eq_true c12); clear c12; (by_cases c13 : x23_2 < (t341.length : Int))
          ·(rw [if_pos c13] at H); (have c13b0 : decide (x23_2 < (t341.length : Int)) = true := decide_eq_true c13); clear c13; (replace H := Option.bind_eq_some_iff.mp H); (obtain ⟨t346, A140, H⟩ := H); (try dsimp only at H); (have A14 := A0_ A140); clear A140; (have H0_ := A0_ H); clear H; (have p344 : 0 ≤ (x23_2 : Int) := of_decide_eq_true as_); (have q344 : x23_2 < (t341.length : Int) := of_decide_eq_true as_); (obtain ⟨ad344, e344, hx344_0, hx344_1, hx344_2⟩ := at_T94 (Kd.R_reads' HO_21.out).2.2 x23_2 p344 q344); (cases e344); (replace p344 := eq_true p344); (replace q344 := eq_true q344)
           go_wp2_with (first | ((with_reducible refine gate_dst (N := 6) rfl ?_); refine be_ (N := 6) (cs := #[.int .i64 0, .int .i64 0, .int .i64 0]) (t := 94) ?_; intro gb345 hg w15 hbox hb; have n0_ := A0_ (Kd.R_below (Kd.R_elderB (by (with_reducible repeat (first | apply Ra_ | apply Rn_ | apply Rd_)); exact HO_3.out) gb345 (Nat.le_of_eq hg.symm)) hb); have n1_ := A0_ (Kd.R_below (Kd.R_elderB (by (with_reducible repeat (first | apply Ra_ | apply Rn_ | apply Rd_)); exact HO_21.out) gb345 (Nat.le_of_eq hg.symm)) hb); have n2_ := A0_ (below_step bw_ hb); have n3_ := A0_ (hbox); have n4_ := A0_ ((by rw [hg]; exact (below_size bw_) : w.heap.size ≤ gb345)); have n5_ := A0_ ((by rw [hg]; exact (below_size bw_) : w.heap.size ≤ gb345)); clear HO_3; clear HO_21; clear HB; have HO_3 := n0_; have HO_21 := n1_; have HB := n2_; have BK345 := n3_; have GW345 := n4_; have GE345 := n5_; clear n0_ n1_ n2_ n3_ n4_ n5_; clear hb hbox hg; have hcz16_0 : w15.cell? ⟨gb345, 0, none⟩ = some (.int .i64 0) := (blk_cell BK345.out 0).trans rfl; have hcz16_1 : w15.cell? ⟨gb345, 1, none⟩ = some (.int .i64 0) := (blk_cell BK345.out 1).trans rfl; have hcz16_2 : w15.cell? ⟨gb345, 2, none⟩ = some (.int .i64 0) := (blk_cell BK345.out 2).trans rfl; have hfz16_0 := blk_frozen BK345.out 0; have hfz16_1 := blk_frozen BK345.out 1; have hfz16_2 := blk_frozen BK345.out 2) | ((with_reducible refine gate_callee (f := 104) rfl ?_); refine gl_ (some 29) Try.func104 #[.slice (some ad336) l0.length c0, .agg #[.int .i64 ((rd_T94 t341 x23_2).f0), .int .i64 ((rd_T94 t341 x23_2).f1), .int .i64 ((rd_T94 t341 x23_2).f2)]] ?_; (with_reducible refine (impl_Cube_104.calls k2 _ _ l0 ((rd_T94 t341 x23_2).f0) ((rd_T94 t341 x23_2).f1) ((rd_T94 t341 x23_2).f2) t346 _ ?side1 ?side2 A14.out).mono ?_); (case side1 => exact Kd.C_below HR0.out bx_); (case side2 => exact HC0.out); rintro e w17 ⟨rfl, hb⟩; refine ⟨_, rfl, ?_⟩; have n0_ := A0_ (Kd.R_below (by (with_reducible repeat (first | apply Ra_ | apply Rn_ | apply Rd_)); exact (Kd.R_mono (Kd.R_far (p := ⟨gb345, 2, none⟩) (Kd.R_far (p := ⟨gb345, 1, none⟩) (Kd.R_far (p := ⟨gb345, 0, none⟩) (Kd.R_mono HO_3.out (fun k_ hk => (⟨hk, hk.2⟩ : _ ∧ k_ ≠ gb345))) (fun _ hk => hk.2) (.int .i64 ((rd_T94 t341 x23_2).f0))) (fun _ hk => hk.2) (.int .i64 ((rd_T94 t341 x23_2).f1))) (fun _ hk => hk.2) (.int .i64 ((rd_T94 t341 x23_2).f2))) (fun _ h_ => h_.1))) hb); have n1_ := A0_ (Kd.R_below (by (with_reducible repeat (first | apply Ra_ | apply Rn_ | apply Rd_)); exact (Kd.R_mono (Kd.R_far (p := ⟨gb345, 2, none⟩) (Kd.R_far (p := ⟨gb345, 1, none⟩) (Kd.R_far (p := ⟨gb345, 0, none⟩) (Kd.R_mono HO_21.out (fun k_ hk => (⟨hk, hk.2⟩ : _ ∧ k_ ≠ gb345))) (fun _ hk => hk.2) (.int .i64 ((rd_T94 t341 x23_2).f0))) (fun _ hk => hk.2) (.int .i64 ((rd_T94 t341 x23_2).f1))) (fun _ hk => hk.2) (.int .i64 ((rd_T94 t341 x23_2).f2))) (fun _ h_ => h_.1))) hb); have n2_ := A0_ (blk_below (g := gb345) (o := .cells #[.int .i64 ((rd_T94 t341 x23_2).f0), .int .i64 ((rd_T94 t341 x23_2).f1), .int .i64 ((rd_T94 t341 x23_2).f2)] 94 (0, 0)) (by (with_reducible repeat (first | apply gn_ | apply gd_ | apply ga_)); refine blk_put (cs := #[.int .i64 ((rd_T94 t341 x23_2).f0), .int .i64 ((rd_T94 t341 x23_2).f1), .int .i64 0]) ?_ 2 _ rfl; (with_reducible repeat (first | apply gn_ | apply gd_ | apply ga_)); refine blk_put (cs := #[.int .i64 ((rd_T94 t341 x23_2).f0), .int .i64 0, .int .i64 0]) ?_ 1 _ rfl; (with_reducible repeat (first | apply gn_ | apply gd_ | apply ga_)); refine blk_put (cs := #[.int .i64 0, .int .i64 0, .int .i64 0]) ?_ 0 _ rfl; exact bk_ BK345) hb); have n3_ := A0_ (below_step bx_ hb); clear HO_3; clear HO_21; clear BK345; clear HB; have HO_3 := n0_; have HO_21 := n1_; have BK345 := n2_; have HB := n3_; clear n0_ n1_ n2_ n3_; (try clear hb); (try clear hb2); (try clear hk); (try clear hi); refine Stop0.out ?_))
           (refine Stop0.mk ?_); (have H := H0_.out); clear H0_; (by_cases c18 : t346 = true)
           ·subst c18; (have H1 := H); (rw [if_pos rfl] at H1); clear H; (have H := H1); clear H1; (replace H := Option.bind_eq_some_iff.mp H); (obtain ⟨t347, A190, H⟩ := H); (try dsimp only at H); (have A19 := A0_ A190); clear A190; (have H0_ := A0_ H); clear H; (have hcz20_0 : w17.cell? ⟨gb345, 0, none⟩ = some (.int .i64 ((rd_T94 t341 x23_2).f0)) := (blk_cell BK345.out 0).trans rfl); (have hcz20_1 : w17.cell? ⟨gb345, 1, none⟩ = some (.int .i64 ((rd_T94 t341 x23_2).f1)) := (blk_cell BK345.out 1).trans rfl); (have hcz20_2 : w17.cell? ⟨gb345, 2, none⟩ = some (.int .i64 ((rd_T94 t341 x23_2).f2)) := (blk_cell BK345.out 2).trans rfl); (have hfz20_0 := blk_frozen BK345.out 0); (have hfz20_1 := blk_frozen BK345.out 1); (have hfz20_2 := blk_frozen BK345.out 2); (obtain ⟨Ao21, co21, eo21⟩ := Kd.R_slice HO_3.out); subst eo21; (go_wp2_with (first | (go_at_call 104; (with_reducible refine (impl_Cube_104.calls k2 _ _ x3_2 ((rd_T94 t341 x23_2).f0) ((rd_T94 t341 x23_2).f1) ((rd_T94 t341 x23_2).f2) t347 _ ?side1 ?side2 A19.out).mono ?_); (case side1 => exact kc_ (Kd.R_reads' HO_3.out).2.2); (case side2 => exact (Kd.R_reads' HO_3.out).2.1); rintro e w22 ⟨rfl, hb⟩; have n0_ := A0_ (Kd.R_below (by (with_reducible repeat (first | apply Ra_ | apply Rn_ | apply Rd_)); exact HO_3.out) hb); have n1_ := A0_ (Kd.R_below (by (with_reducible repeat (first | apply Ra_ | apply Rn_ | apply Rd_)); exact HO_21.out) hb); have n2_ := A0_ (blk_below (g := gb345) (o := .cells #[.int .i64 ((rd_T94 t341 x23_2).f0), .int .i64 ((rd_T94 t341 x23_2).f1), .int .i64 ((rd_T94 t341 x23_2).f2)] 94 (0, 0)) (bk_ BK345) hb); have n3_ := A0_ (below_step bx_ hb); clear HO_3; clear HO_21; clear BK345; clear HB; have HO_3 := n0_; have HO_21 := n1_; have BK345 := n2_; have HB := n3_; clear n0_ n1_ n2_ n3_; (try clear hb); (try clear hb2); (try clear hk); (try clear hi); refine Stop0.out ?_))); (refine Stop0.mk ?_); (have H := H0_.out); clear H0_; (by_cases c23 : t347 = true)
            ·subst c23; (have H1 := H); (rw [if_pos rfl] at H1); clear H; (have H := H1); clear H1; (have H' := A0_ H); clear H; go_wp2; (go_roundg k2)
             case measure => have := HK1.out; have := HK2.out; omega
             case rel => exact ⟨(x3_2), (wrap64 (x23_2 + 1)), (by first | rfl | (simp; done) | (simp [*]; done)), H', ⟨by have := HK1.out; have := HK2.out; omega⟩, ⟨by (with_reducible repeat (first | apply Ra_ | apply Rn_ | apply Rd_)); exact Kd.R_mono HO_3.out (fun _ hk => hk.1)⟩, ⟨by (with_reducible repeat (first | apply Ra_ | apply Rn_ | apply Rd_)); exact Kd.R_mono HO_21.out (fun _ hk => hk.1)⟩, ⟨by repeat (first | (with_reducible first | exact HB.out | apply ba_ | apply bn_ | apply bd_ | refine below_set ?_ GE345.out) | exact HB.out)⟩⟩
            ·(replace c23 := Bool.eq_false_iff.mpr c23); subst c23; (have H1 : (if x3_2.length < 5864062014805 then (impl_connectedCubes.l1 k2 l0 (x3_2 ++ [(⟨(rd_T94 t341 x23_2).f0, (rd_T94 t341 x23_2).f1, (rd_T94 t341 x23_2).f2⟩ : S94)]) x4_1 t341 (t341.length : Int) (wrap64 (x23_2 + 1))) else (none)) = some r := by rw [if_neg (show ¬ (false = true) by decide)] at H; exact H); clear H; (have H := H1); clear H1; (by_cases c24 : x3_2.length < 5864062014805)
             ·(rw [if_pos c24] at H); (have LMc24 := A0_ c24); clear c24; (obtain ⟨y348, hy348⟩ : ∃ y_ : List (S94), y_ = (x3_2 ++ [(⟨(rd_T94 t341 x23_2).f0, (rd_T94 t341 x23_2).f1, (rd_T94 t341 x23_2).f2⟩ : S94)]) := ⟨_, rfl⟩); (replace H : (impl_connectedCubes.l1 k2 l0 y348 x4_1 t341 (t341.length : Int) (wrap64 (x23_2 + 1))) = some r := by first | (rw [hy348]; with_reducible exact H) | (have H2_ := (Option.bind_some _ _).symm.trans H; rw [hy348]; with_reducible exact H2_) | (have H2_ := (Option.bind_some _ _).symm.trans H; with_reducible exact H2_) | with_reducible exact H | (rw [hy348]; exact H) | exact H); (have Ny348 := A0_ hy348); clear hy348; (have H' := A0_ H); clear H; (have hcz25_0 : w22.cell? ⟨gb345, 0, none⟩ = some (.int .i64 ((rd_T94 t341 x23_2).f0)) := (blk_cell BK345.out 0).trans rfl); (have hcz25_1 : w22.cell? ⟨gb345, 1, none⟩ = some (.int .i64 ((rd_T94 t341 x23_2).f1)) := (blk_cell BK345.out 1).trans rfl); (have hcz25_2 : w22.cell? ⟨gb345, 2, none⟩ = some (.int .i64 ((rd_T94 t341 x23_2).f2)) := (blk_cell BK345.out 2).trans rfl); (have hfz25_0 := blk_frozen BK345.out 0); (have hfz25_1 := blk_frozen BK345.out 1); (have hfz25_2 := blk_frozen BK345.out 2)
              go_wp2_with (first | ((with_reducible refine gate_builtin (b := .append) (xs := #[.tmp 36, .tmp 38]) rfl ?_); at_builtin; refine Kd.R_append k94 (w0 := w) w.heap.size rfl (.tmp 36) (.tmp 38) 35 94 (.agg #[(.int .i64 0), (.int .i64 0), (.int .i64 0)]) 24 rfl Try.underlying35 info94 rfl (by decide) (by omega) (.slice Ao21 x3_2.length co21) x3_2 (⟨(rd_T94 t341 x23_2).f0, (rd_T94 t341 x23_2).f1, (rd_T94 t341 x23_2).f2⟩ : S94) [.int .i64 ((rd_T94 t341 x23_2).f0), .int .i64 ((rd_T94 t341 x23_2).f1), .int .i64 ((rd_T94 t341 x23_2).f2)] (fun k_ => some k_ ≠ (.slice (some ad344) t341.length co10 : Value).ownBlock ∧ k_ ≠ gb345) (fun _ => False) rfl rfl ?aP (fun _ hk => hk.elim) ?aF ?aO ?aB ?aS ?aL ?_; (case aP => exact k94_mkM _ _ _ (⟨(rd_T94 t341 x23_2).f0, (rd_T94 t341 x23_2).f1, (rd_T94 t341 x23_2).f2⟩ : S94)); (case aB => exact bx_); (case aF => exact (fun k_ hk => ⟨Kd.fresh' (Kd.R_lt (by (with_reducible repeat (first | apply Ra_ | apply Rn_ | apply Rd_)); exact HO_21.out)) k_ hk, Kd.freshB (g := gb345) (o := .cells #[.int .i64 ((rd_T94 t341 x23_2).f0), .int .i64 ((rd_T94 t341 x23_2).f1), .int .i64 ((rd_T94 t341 x23_2).f2)] 94 (0, 0)) (bk_ BK345) k_ hk⟩)); (case aO => exact (by (with_reducible repeat (first | apply Ra_ | apply Rn_ | apply Rd_)); exact HO_3.out)); (case aS => exact (below_size bx_)); (case aL => have := LMc24.out; omega); intro v349 w26 ho hb hg hat; rw [← Ny348.out] at ho; have n0_ := A0_ (Kd.R_after (ok := (fun k_ => k_ ≠ gb345)) (by (with_reducible repeat (first | apply Ra_ | apply Rn_ | apply Rd_)); exact Kd.R_mono HO_21.out (fun _ hk => ⟨hk.2, hk.1⟩)) hg hat); have n1_ := A0_ (blk_grown (g := gb345) (o := .cells #[.int .i64 ((rd_T94 t341 x23_2).f0), .int .i64 ((rd_T94 t341 x23_2).f1), .int .i64 ((rd_T94 t341 x23_2).f2)] 94 (0, 0)) (bk_ BK345) hg (Kd.R_away HO_3.out (fun _ hk => hk.2))); have n2_ := A0_ (hb); have n3_ := A0_ (ho); clear HO_21; clear BK345; clear HB; clear HO_3; have HO_21 := n0_; have BK345 := n1_; have HB := n2_; have HO350 := n3_; clear n0_ n1_ n2_ n3_; clear ho hb hg hat))
              (go_roundg k2)
              case measure => have := HK1.out; have := HK2.out; omega
              case rel => exact ⟨(y348), (wrap64 (x23_2 + 1)), (by first | rfl | (simp; done) | (simp [*]; done)), H', ⟨by have := HK1.out; have := HK2.out; omega⟩, ⟨by (with_reducible repeat (first | apply Ra_ | apply Rn_ | apply Rd_)); exact Kd.R_mono HO350.out (fun _ hk => hk.1)⟩, ⟨by (with_reducible repeat (first | apply Ra_ | apply Rn_ | apply Rd_)); exact Kd.R_mono HO_21.out (fun _ hk => hk.2)⟩, ⟨by repeat (first | (with_reducible first | exact HB.out | apply ba_ | apply bn_ | apply bd_ | refine below_set ?_ GE345.out) | exact HB.out)⟩⟩
             ·(rw [if_neg c24] at H); (exact absurd H (by simp))
           ·(replace c18 := Bool.eq_false_iff.mpr c18); subst c18; (have H1 : (impl_connectedCubes.l1 k2 l0 x3_2 x4_1 t341 (t341.length : Int) (wrap64 (x23_2 + 1))) = some r := by rw [if_neg (show ¬ (false = true) by decide)] at H; exact H); clear H; (have H := H1); clear H1; (have H' := A0_ H); clear H; go_wp2; (go_roundg k2)
            case measure => have := HK1.out; have := HK2.out; omega
            case rel => exact ⟨(x3_2), (wrap64 (x23_2 + 1)), (by first | rfl | (simp; done) | (simp [*]; done)), H', ⟨by have := HK1.out; have := HK2.out; omega⟩, ⟨by (with_reducible repeat (first | apply Ra_ | apply Rn_ | apply Rd_)); exact Kd.R_mono HO_3.out (fun _ hk => hk.1)⟩, ⟨by (with_reducible repeat (first | apply Ra_ | apply Rn_ | apply Rd_)); exact Kd.R_mono HO_21.out (fun _ hk => hk.1)⟩, ⟨by repeat (first | (with_reducible first | exact HB.out | apply ba_ | apply bn_ | apply bd_ | refine below_set ?_ GE345.out) | exact HB.out)⟩⟩
          ·(rw [if_neg c13] at H); (exact absurd H (by simp))
         ·(rw [if_neg c12] at H); (exact absurd H (by simp))
        ·(rw [if_neg c11] at H); (have c11b0 : decide (x23_2 < (t341.length : Int)) = false := decide_eq_false c11); clear c11; (have H' := A0_ H); clear H; go_wp2; (go_roundg k2)
         case measure => have := HK1.out; have := HK2.out; omega
         case rel => exact ⟨(x3_2), (wrap64 (x4_1 + 1)), (by first | rfl | (simp; done) | (simp [*]; done)), H', ⟨by have := HK1.out; have := HK2.out; omega⟩, ⟨by (with_reducible repeat (first | apply Ra_ | apply Rn_ | apply Rd_)); exact Kd.R_mono HO_3.out (fun _ hk => trivial)⟩, ⟨by repeat (first | (with_reducible first | exact HB.out | apply ba_ | apply bn_ | apply bd_) | exact HB.out)⟩⟩
     ·(rw [if_neg c6] at H); (exact absurd H (by simp))
    ·(rw [if_neg c5] at H); (have c5b0 : decide (x4_1 < (x3_1.length : Int)) = false := decide_eq_false c5); clear c5; (obtain rfl := Option.some.inj H); (obtain ⟨Ao27, co27, eo27⟩ := Kd.R_slice HO_3.out); subst eo27; go_wp2; go_ret; (exact ⟨er_, bx_⟩)
 ·(rw [if_neg c2] at H); (exact absurd H (by simp))
end
def partOk (sol con : List Cb → Bool) (p : List Cb) : Bool := sol p && (con p && !p.any (fun c => !inCb c 0 7))
def isAsmP (sol con : List Cb → Bool) (parts : List (List Cb)) : Bool := (decide (2 ≤ parts.length) && decide (parts.length ≤ 4)) && (parts.all (partOk sol con) && clearP parts (zerosC parts.length))
set_option maxHeartbeats 1000000 in
set_option maxRecDepth 100000 in
theorem in7_pred (w : World) : PredC w 75 #[] (fun c => !inCb c 0 7) := by
 refine ⟨_, Try.func75, by kernel_rfl, by kernel_rfl, ?_⟩
 intro c w' hb
 have hu69 := Try.underlying94
 have HS := A0_ (Sp.start w')
 have HIN := A0_ (inCube_eq c 0 7)
 dsimp only
 generalize inCb c 0 7 = b at HIN ⊢
 clear hb
 show Calls Try.prog 75 #[vC c] w' _
 go_enter Try.func75, Try.ntmps75
 go_wp2_with (first
  | ((with_reducible refine gate_dst (N := 1) rfl ?_); refine be_ (N := 1) (cs := #[.int .i64 c.f0, .int .i64 c.f1, .int .i64 c.f2]) (t := 94) ?_; intro gc hgb_ wb_ hcb_ hbb_; replace HS := A0_ (Sp.boxed HS.out hgb_ hcb_ hbb_); clear hgb_ hcb_ hbb_; have hc0 := (cl_ HS 0 0 rfl).trans rfl; have hc1 := (cl_ HS 0 1 rfl).trans rfl; have hc2 := (cl_ HS 0 2 rfl).trans rfl)
  | (go_at_call 76; refine (impl_inCube.calls c.f0 c.f1 c.f2 0 7 b _ HIN.out).mono ?_; rintro e wc_ ⟨rfl, hb_⟩; replace HS := A0_ (Sp.far HS.out hb_); clear hb_ hc0 hc1 hc2))
 go_ret
 exact ⟨rfl, HS.out.below⟩
def isAsmF.T9 : Bool × List (List Nat × List Nat) := (true, [([], []), ([0], [0]), ([], []), ([2], [2]), ([3], [3]), ([4, 4], [4]), ([1, 5, 1], [1, 5]), ([6, 6, 0, 1, 2, 3, 4, 5, 6], [6])])
def isAsmF.B9 : List Nat := [0, 1, 0, 4, 12, 28, 63, 127]
theorem isAsmF.tab9 : rtab .any (opsOf Try.f43 9) = isAsmF.T9 := by kernel_rfl
theorem isAsmF.bits9 : waitsOk isAsmF.T9.2 isAsmF.B9 = true := by kernel_rfl
set_option maxHeartbeats 4000000 in
set_option maxRecDepth 100000 in
theorem isAssembly_calls (w0 : World) (Ap : Option Addr) (cp : Nat) (parts : List (List Cb)) (hP : kP.C w0 Ap parts.length parts) (hsz : ∀ p ∈ parts, p.length ≤ 1048576) (sol con : List Cb → Bool) (hsol : ∀ p ∈ parts, ∃ K, impl_isSolid.f K p = some (sol p)) (hcon : ∀ p ∈ parts, sol p = true → ∃ K, impl_connectedCubes.f K p = some (con p)) (rest : List Res) (w : World) (hs : Sp w0 rest w) :
  Calls Try.prog 43 #[.agg #[.slice Ap parts.length cp]] w fun e w' => e = .returned (.bool (isAsmP sol con parts)) ∧ Sp w0 rest w' := by
 have hu32 := Try.underlying26
 have HS := A0_ hs
 have HP := A0_ hP
 have HSZ := A0_ hsz
 have HSOL := A0_ hsol
 have HCON := A0_ hcon
 clear hs hP hsz hsol hcon
 by_cases c1 : parts.length < 2
 ·have d0 : decide ((parts.length : Int) < 2) = true := decide_eq_true (by omega)
  have d1 : ((parts.length : Int) < 2) = True := eq_true (by omega)
  have d2 : (parts.length < 2) = True := eq_true c1
  have HN := A0_ (show isAsmP sol con parts = false by unfold isAsmP; rw [decide_eq_false (show ¬ 2 ≤ parts.length by omega)]; rfl)
  clear c1
  go_enter Try.func43, Try.ntmps43
  go_wp2_with (first
   | ((with_reducible refine gate_dst (N := 1) rfl ?_); refine be_ (N := 1) (cs := #[.slice Ap parts.length cp]) (t := 26) ?_; intro ga hgb_ wb_ hcb_ hbb_; replace HS := A0_ (Sp.boxed HS.out hgb_ hcb_ hbb_); clear hgb_ hcb_ hbb_; have ha0 := (cl_ HS 0 0 rfl).trans rfl))
  go_ret
  exact ⟨by rw [HN.out]; rfl, Sp.tail HS.out⟩
 by_cases c2 : 4 < parts.length
 ·have d0 : decide ((parts.length : Int) < 2) = false := decide_eq_false (by omega)
  have d1 : ((parts.length : Int) < 2) = False := eq_false (by omega)
  have d2 : (parts.length < 2) = False := eq_false c1
  have d3 : decide ((4 : Int) < (parts.length : Int)) = true := decide_eq_true (by omega)
  have d4 : ((4 : Int) < (parts.length : Int)) = True := eq_true (by omega)
  have d5 : (4 < parts.length) = True := eq_true c2
  have HN := A0_ (show isAsmP sol con parts = false by unfold isAsmP; rw [decide_eq_false (show ¬ parts.length ≤ 4 by omega), Bool.and_false]; rfl)
  clear c1 c2
  go_enter Try.func43, Try.ntmps43
  go_wp2_with (first
   | ((with_reducible refine gate_dst (N := 1) rfl ?_); refine be_ (N := 1) (cs := #[.slice Ap parts.length cp]) (t := 26) ?_; intro ga hgb_ wb_ hcb_ hbb_; replace HS := A0_ (Sp.boxed HS.out hgb_ hcb_ hbb_); clear hgb_ hcb_ hbb_; have ha0 := (cl_ HS 0 0 rfl).trans rfl))
  go_ret
  exact ⟨by rw [HN.out]; rfl, Sp.tail HS.out⟩
 have d0 : decide ((parts.length : Int) < 2) = false := decide_eq_false (by omega)
 have d1 : ((parts.length : Int) < 2) = False := eq_false (by omega)
 have d2 : (parts.length < 2) = False := eq_false c1
 have d3 : decide ((4 : Int) < (parts.length : Int)) = false := decide_eq_false (by omega)
 have d4 : ((4 : Int) < (parts.length : Int)) = False := eq_false (by omega)
 have d5 : (4 < parts.length) = False := eq_false c2
 have HN := A0_ (show isAsmP sol con parts = (parts.all (partOk sol con) && clearP parts (zerosC parts.length)) by unfold isAsmP; rw [decide_eq_true (show 2 ≤ parts.length by omega), decide_eq_true (show parts.length ≤ 4 by omega)]; rfl)
 have HL := A0_ (show 2 ≤ parts.length ∧ parts.length ≤ 4 by omega)
 have HF := A0_ (show FrOk w0 Ap parts from ⟨HP.out, by omega, HSZ.out⟩)
 rw [HN.out]
 clear c1 c2 HN
 go_enter Try.func43, Try.ntmps43
 go_wp2_with (first
  | ((with_reducible refine gate_dst (N := 1) rfl ?_); refine be_ (N := 1) (cs := #[.slice Ap parts.length cp]) (t := 26) ?_; intro ga hgb_ wb_ hcb_ hbb_; replace HS := A0_ (Sp.boxed HS.out hgb_ hcb_ hbb_); clear hgb_ hcb_ hbb_; have ha0 := (cl_ HS 0 0 rfl).trans rfl))
 clear ha0
 replace HS := A0_ (show Sp w0 ([Res.blk ga #[.slice Ap parts.length cp] 26] ++ rest) wb_ from HS.out)
 go_loopg [18] (parts.length + 1) (fun kq v18 w' => ∃ (i : Nat), v18 = .int .i64 (i : Int) ∧ Aside0 (i ≤ parts.length ∧ kq + i = parts.length + 1 ∧ (parts.take i).all (partOk sol con) = true) ∧ Aside0 (Sp w0 ([Res.blk ga #[.slice Ap parts.length cp] 26] ++ rest) w'))
 case atStart => exact ⟨0, rfl, ⟨by omega, by omega, by simp⟩, HS⟩
 case round =>
  clear HS
  obtain ⟨i, rfl, HX, HS⟩ := hrel
  obtain ⟨k1, rfl⟩ : ∃ k1, gk = k1 + 1 := ⟨gk - 1, by have := HX.out; omega⟩
  by_cases ci : i < parts.length
  ·have ci0 : decide (i < parts.length) = true := decide_eq_true ci
   have q0 : (0 ≤ (i : Int)) = True := eq_true (by omega)
   have q1 : ((i : Int) < (parts.length : Int)) = True := eq_true (by omega)
   obtain ⟨adp, Ai, ci_, e, hx0, hx1, hx2⟩ := at_L3 (Kd.C_below HP.out HS.out.below) (i : Int) (by omega) (by omega)
   subst e
   have hpi : rd_L3 parts (i : Int) = parts[i] := by unfold rd_L3; simp [ci]
   rw [hpi] at hx0 hx1 hx2
   rw [Int.toNat_natCast] at hx0
   have hin : parts[i] ∈ parts := List.getElem_mem ci
   obtain ⟨K1, hK1⟩ := HSOL.out _ hin
   have hK2 := HCON.out _ hin
   have HNX := A0_ (show (parts.take (i + 1)).all (partOk sol con) = partOk sol con parts[i] by rw [List.take_succ_eq_append_getElem ci, List.all_append, HX.out.2.2]; simp)
   have HNO := A0_ (fun (h : partOk sol con parts[i] = false) => show parts.all (partOk sol con) = false by
    rw [Bool.eq_false_iff]
    intro hc
    rw [List.all_eq_true] at hc
    rw [hc _ hin] at h
    cases h)
   have HW := A0_ (wrap_succ i (by have := HL.out; omega))
   generalize parts[i] = p at hx0 hx1 hx2 hK1 hK2 HNX HNO
   have HC := A0_ hx2
   have HCC := A0_ hx1
   clear hpi hin ci hx1 hx2
   cases c1 : sol p with
   | false =>
    rw [c1] at hK1
    have HK1 := A0_ hK1
    have HFA := A0_ (HNO.out (by unfold partOk; rw [c1]; first | done | rfl))
    clear hK1 hK2 HNX HNO c1
    go_wp2_with (first
     | (go_at_call 72; refine (impl_isSolid.calls K1 Ai ci_ p false _ HC.out HCC.out HK1.out).mono ?_; rintro e wc_ ⟨rfl, hb_⟩; replace HS := A0_ (Sp.far HS.out hb_); clear hb_ hx0))
    go_ret
    exact ⟨by rw [HFA.out]; rfl, Sp.tail HS.out⟩
   | true =>
    rw [c1] at hK1
    have HK1 := A0_ hK1
    obtain ⟨K2, hK2⟩ := hK2 c1
    cases c2 : con p with
    | false =>
     rw [c2] at hK2
     have HK2 := A0_ hK2
     have HFA := A0_ (HNO.out (by unfold partOk; rw [c1, c2]; first | done | rfl))
     clear hK1 hK2 HNX HNO c1 c2
     go_wp2_with (first
      | (go_at_call 72; refine (impl_isSolid.calls K1 Ai ci_ p true _ HC.out HCC.out HK1.out).mono ?_; rintro e wc_ ⟨rfl, hb_⟩; replace HS := A0_ (Sp.far HS.out hb_); replace HC := A0_ (Kd.C_below HC.out hb_); clear hb_ hx0)
      | (go_at_call 73; refine (impl_connectedCubes.calls K2 Ai ci_ p false _ HC.out HCC.out HK2.out).mono ?_; rintro e wc_ ⟨rfl, hb_⟩; replace HS := A0_ (Sp.far HS.out hb_); clear hb_))
     go_ret
     exact ⟨by rw [HFA.out]; rfl, Sp.tail HS.out⟩
    | true =>
     rw [c2] at hK2
     have HK2 := A0_ hK2
     cases c3 : p.any (fun c => !inCb c 0 7) with
     | true =>
      have HAN := A0_ c3
      have HFA := A0_ (HNO.out (by unfold partOk; rw [c1, c2, c3]; first | done | rfl))
      clear hK1 hK2 HNX HNO c1 c2 c3
      go_wp2_with (first
       | (go_at_call 72; refine (impl_isSolid.calls K1 Ai ci_ p true _ HC.out HCC.out HK1.out).mono ?_; rintro e wc_ ⟨rfl, hb_⟩; replace HS := A0_ (Sp.far HS.out hb_); replace HC := A0_ (Kd.C_below HC.out hb_); clear hb_ hx0)
       | (go_at_call 73; refine (impl_connectedCubes.calls K2 Ai ci_ p true _ HC.out HCC.out HK2.out).mono ?_; rintro e wc_ ⟨rfl, hb_⟩; replace HS := A0_ (Sp.far HS.out hb_); replace HC := A0_ (Kd.C_below HC.out hb_); clear hb_)
       | (go_at_call 74; refine (containsFunc_calls Ai ci_ p _ _ #[] _ (in7_pred _) HC.out).mono ?_; rw [HAN.out]; rintro e wc_ ⟨rfl, hb_⟩; replace HS := A0_ (Sp.far HS.out hb_); clear hb_))
      go_ret
      exact ⟨by rw [HFA.out]; rfl, Sp.tail HS.out⟩
     | false =>
      have HAN := A0_ c3
      have HN2 := A0_ (HNX.out.trans (by unfold partOk; rw [c1, c2, c3]; first | done | rfl))
      clear hK1 hK2 HNX HNO c1 c2 c3
      go_wp2_with (first
       | (go_at_call 72; refine (impl_isSolid.calls K1 Ai ci_ p true _ HC.out HCC.out HK1.out).mono ?_; rintro e wc_ ⟨rfl, hb_⟩; replace HS := A0_ (Sp.far HS.out hb_); replace HC := A0_ (Kd.C_below HC.out hb_); clear hb_ hx0)
       | (go_at_call 73; refine (impl_connectedCubes.calls K2 Ai ci_ p true _ HC.out HCC.out HK2.out).mono ?_; rintro e wc_ ⟨rfl, hb_⟩; replace HS := A0_ (Sp.far HS.out hb_); replace HC := A0_ (Kd.C_below HC.out hb_); clear hb_)
       | (go_at_call 74; refine (containsFunc_calls Ai ci_ p _ _ #[] _ (in7_pred _) HC.out).mono ?_; rw [HAN.out]; rintro e wc_ ⟨rfl, hb_⟩; replace HS := A0_ (Sp.far HS.out hb_); clear hb_))
      go_roundg k1
      case measure => omega
      case rel =>
       rw [HW.out]
       exact ⟨i + 1, rfl, ⟨by have := of_decide_eq_true ci0; omega, by have := HX.out; omega, HN2.out⟩, HS⟩
  ·have ci0 : decide (i < parts.length) = false := decide_eq_false ci
   have HALL := A0_ (show parts.all (partOk sol con) = true by
    have h := HX.out.2.2
    rw [List.take_of_length_le (by omega)] at h
    exact h)
   clear ci
   go_wp2
   replace HS := A0_ (Sp.drew HS.out)
   refine start_ (n := 8) (S := fun w' => w'.cell? ⟨ga, 0, none⟩ = some (.slice Ap parts.length cp)) (ds := []) #[false, false, false, false, false, false, false, false] (by kernel_rfl) rfl rfl ((cl_ HS 0 0 rfl).trans rfl) (fun hHeld => ?_)
   refine with_tabW isAsmF.tab9 isAsmF.bits9 (fun HT_ HW_ => ?_)
   generalize wr.drew = wD at HS hHeld ⊢
   refine tk_ 0 (some 35) ?_
   refine on_ 2 (some 37) ?_
   refine tk_ 3 (some 38) ?_
   refine on_ 4 (some 39) ?_
   refine o2_ 1 5 (some 36) (some 40) (fun K hK => ?_) (fun K hK => ?_)
   ·refine gs_ Try.func50 #[.agg #[.slice Ap parts.length cp]] ?_
    refine (newFrame_calls w0 Ap cp parts ([Res.blk ga #[.slice Ap parts.length cp] 26] ++ rest) _ HS.out).mono ?_
    rintro e wF ⟨gF, gM, rfl, hs_⟩
    refine ⟨_, rfl, ?_⟩
    replace HS := A0_ (hs_)
    clear hs_
    refine hK.out _ _ ((cl_ HS 2 0 rfl).trans rfl) (fun hHeld => ?_)
    clear hK K
    refine nm_ (some 36) ?_
    refine o1_ 5 (some 40) (fun K hK => ?_)
    refine Kd.R_make_step kC _ 94 (by rfl) (N := 40) rfl 35 _ _ rfl ((parts.length : Nat) : Int) rfl rfl Try.underlying35 (.agg #[(.int .i64 0), (.int .i64 0), (.int .i64 0)]) 24 info94 rfl (by decide) (by decide) (⟨0, 0, 0⟩ : Cb) (ok := fun _ => True) (okp := fun _ => True) (k94_mkM _ _ _ (⟨0, 0, 0⟩ : Cb)) (fun _ hk => hk) trivial (by omega) (by have := HL.out; omega) (Below.refl _ _) (Nat.le_refl _) ?_
    intro vA11 wA11 ho hb hg_ hn_
    clear hg_ hn_
    rw [Int.toNat_natCast] at ho
    have HZR_ := A0_ (Sp.made' HS.out hb ho)
    clear HS ho hb
    have HS := HZR_
    clear HZR_
    obtain ⟨AZ, cZ, eA_⟩ := Sp.slice HS.out (i := 0) rfl
    subst eA_
    have hcz_ := (Sp.reads HS.out (i := 0) rfl).2.1
    refine hK.out _ _ ((cl_ HS 3 0 rfl).trans rfl) (fun hHeld => ?_)
    clear hK K
    refine nm_ (some 40) ?_
    refine o1_ 6 (some 41) (fun K hK => ?_)
    replace HS := A0_ (Sp.arr (pre := [Res.row kC 94 w0.heap.size (.slice AZ (zerosC parts.length).length cZ) (zerosC parts.length), frBlk gF gM Ap cp parts, frMemo gM parts, Res.blk ga #[.slice Ap parts.length cp] 26]) (pre' := [frBlk gF gM Ap cp parts, frMemo gM parts, Res.row kC 94 w0.heap.size (.slice AZ (zerosC parts.length).length cZ) (zerosC parts.length), Res.blk ga #[.slice Ap parts.length cp] 26]) (rest := rest) [1, 2, 0, 3] HS.out rfl rfl)
    have hzl_ : (zerosC parts.length).length = parts.length := List.length_replicate
    have hcl_ := clear_calls w0 Ap cp gF gM parts HF.out (Res.row kC 94 w0.heap.size (.slice AZ (zerosC parts.length).length cZ) (zerosC parts.length)) AZ cZ (zerosC parts.length) Rds.row hcz_ (by rw [hzl_]; exact Nat.le_refl _) ([Res.blk ga #[.slice Ap parts.length cp] 26] ++ rest) _ HS.out
    refine gs_ Try.func77 #[.pointer (some ⟨gF, 0, none⟩), .slice AZ (zerosC parts.length).length cZ] ?_
    refine hcl_.mono ?_
    rintro e wC ⟨rfl, hs_⟩
    refine ⟨_, rfl, ?_⟩
    replace HS := A0_ (hs_)
    clear hs_ hcl_
    refine hK.out _ _ ((cl_ HS 3 0 rfl).trans rfl) (fun hHeld => ?_)
    clear hK K
    refine nm_ (some 41) ?_
    refine on_ 7 (some 2) ?_
    refine dn_ ?_
    try go_wp2
    go_ret
    exact ⟨by rw [HALL.out]; rfl, Sp.out (Sp.out (Sp.out (Sp.out HS.out 3) 2) 1) 0⟩
   ·refine Kd.R_make_step kC _ 94 (by rfl) (N := 40) rfl 35 _ _ rfl ((parts.length : Nat) : Int) rfl rfl Try.underlying35 (.agg #[(.int .i64 0), (.int .i64 0), (.int .i64 0)]) 24 info94 rfl (by decide) (by decide) (⟨0, 0, 0⟩ : Cb) (ok := fun _ => True) (okp := fun _ => True) (k94_mkM _ _ _ (⟨0, 0, 0⟩ : Cb)) (fun _ hk => hk) trivial (by omega) (by have := HL.out; omega) (Below.refl _ _) (Nat.le_refl _) ?_
    intro vA11 wA11 ho hb hg_ hn_
    clear hg_ hn_
    rw [Int.toNat_natCast] at ho
    have HZR_ := A0_ (Sp.made' HS.out hb ho)
    clear HS ho hb
    have HS := HZR_
    clear HZR_
    obtain ⟨AZ, cZ, eA_⟩ := Sp.slice HS.out (i := 0) rfl
    subst eA_
    have hcz_ := (Sp.reads HS.out (i := 0) rfl).2.1
    refine hK.out _ _ ((cl_ HS 1 0 rfl).trans rfl) (fun hHeld => ?_)
    clear hK K
    refine nm_ (some 40) ?_
    refine o1_ 1 (some 36) (fun K hK => ?_)
    refine gs_ Try.func50 #[.agg #[.slice Ap parts.length cp]] ?_
    refine (newFrame_calls w0 Ap cp parts ([Res.row kC 94 w0.heap.size (.slice AZ (zerosC parts.length).length cZ) (zerosC parts.length), Res.blk ga #[.slice Ap parts.length cp] 26] ++ rest) _ HS.out).mono ?_
    rintro e wF ⟨gF, gM, rfl, hs_⟩
    refine ⟨_, rfl, ?_⟩
    replace HS := A0_ (hs_)
    clear hs_
    refine hK.out _ _ ((cl_ HS 3 0 rfl).trans rfl) (fun hHeld => ?_)
    clear hK K
    refine nm_ (some 36) ?_
    refine o1_ 6 (some 41) (fun K hK => ?_)
    have hzl_ : (zerosC parts.length).length = parts.length := List.length_replicate
    have hcl_ := clear_calls w0 Ap cp gF gM parts HF.out (Res.row kC 94 w0.heap.size (.slice AZ (zerosC parts.length).length cZ) (zerosC parts.length)) AZ cZ (zerosC parts.length) Rds.row hcz_ (by rw [hzl_]; exact Nat.le_refl _) ([Res.blk ga #[.slice Ap parts.length cp] 26] ++ rest) _ HS.out
    refine gs_ Try.func77 #[.pointer (some ⟨gF, 0, none⟩), .slice AZ (zerosC parts.length).length cZ] ?_
    refine hcl_.mono ?_
    rintro e wC ⟨rfl, hs_⟩
    refine ⟨_, rfl, ?_⟩
    replace HS := A0_ (hs_)
    clear hs_ hcl_
    refine hK.out _ _ ((cl_ HS 3 0 rfl).trans rfl) (fun hHeld => ?_)
    clear hK K
    refine nm_ (some 41) ?_
    refine on_ 7 (some 2) ?_
    refine dn_ ?_
    try go_wp2
    go_ret
    exact ⟨by rw [HALL.out]; rfl, Sp.out (Sp.out (Sp.out (Sp.out HS.out 3) 2) 1) 0⟩
end Go.Proofs.Ytcobnlilmihjfaa.A

