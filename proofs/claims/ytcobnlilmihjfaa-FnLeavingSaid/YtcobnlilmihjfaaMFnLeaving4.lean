/- What the row of the law FnLeaving stands on, part 4. -/
import Derived.Test.YtcobnlilmihjfaaMFnLeaving3
namespace Go.Proofs.Ytcobnlilmihjfaa.A
open Go.RowKit Go.Proofs.YtcobnlilmihjfaaW.PrintWords Go.Proofs.YtcobnlilmihjfaaW.PrintLast Go.Proofs.YtcobnlilmihjfaaW.PrintMore
set_option linter.unusedVariables false
set_option linter.unusedSimpArgs false
structure DrOk (PS : List (Sl × List Cb)) : Prop where
 len : PS.length ≤ 8
 each : ∀ p ∈ PS, p.2.length ≤ 64
def drR (base : Nat) (A : Option Addr) (PS : List (Sl × List Cb)) : Res := Res.ex (fun x : Nat × Nat × List Sl × List (Sl × List Cb) => Res.star (Res.pure (PS.map Prod.fst = x.2.2.1.take PS.length ∧ PS.length ≤ x.2.2.1.length ∧ ∀ p ∈ PS, p ∈ x.2.2.2)) (Res.star (Res.row kSl 35 base (.slice A x.1 x.2.1) x.2.2.1) (Res.poolG kC 94 base x.2.2.2)))
theorem drR_reads {w0 : World} {base : Nat} {A : Option Addr} {PS : List (Sl × List Cb)} : RdsP w0 (drR base A PS) A (PS.map Prod.snd) := by
 intro fp w hb hP
 obtain ⟨⟨n, c, hs, L⟩, f1, f2, hp, ⟨f3, f4, h1, h2, _⟩, _⟩ := hP
 obtain ⟨e1, e2, e3⟩ := hp
 replace e2 : PS.length ≤ hs.length := e2
 replace e1 : PS.map Prod.fst = hs.take PS.length := e1
 have hr := Kd.R_reads' h1
 have ht := Kd.C_take hr.2.2 e2
 rw [List.length_map]
 have e4 : (hs.take PS.length).length = PS.length := by rw [List.length_take]; omega
 have hc : kSl.C w A PS.length (PS.map Prod.fst) := by rw [e1]; rw [e4] at ht; exact ht
 exact kP_of hc (fun p hp => by have := Kd.R_reads' (h2 p (e3 p hp)); exact ⟨this.1, this.2.1, this.2.2⟩)
theorem Sp.drClose {w0 w : World} {rs : List Res} {A : Option Addr} {n c : Nat} {hs : List Sl} {L : List (Sl × List Cb)} {PS : List (Sl × List Cb)} (h : Sp w0 (Res.row kSl 35 w0.heap.size (.slice A n c) hs :: Res.poolG kC 94 w0.heap.size L :: rs) w) (h1 : PS.map Prod.fst = hs.take PS.length) (h2 : PS.length ≤ hs.length) (h3 : ∀ p ∈ PS, p ∈ L) : Sp w0 (drR w0.heap.size A PS :: rs) w := by
 have a := Sp.star_close h
 have b := Sp.star_close (Sp.pureIn a (show PS.map Prod.fst = hs.take PS.length ∧ PS.length ≤ hs.length ∧ ∀ p ∈ PS, p ∈ L from ⟨h1, h2, h3⟩))
 exact Sp.ex_close (R := fun x : Nat × Nat × List Sl × List (Sl × List Cb) => Res.star (Res.pure (PS.map Prod.fst = x.2.2.1.take PS.length ∧ PS.length ≤ x.2.2.1.length ∧ ∀ p ∈ PS, p ∈ x.2.2.2)) (Res.star (Res.row kSl 35 w0.heap.size (.slice A x.1 x.2.1) x.2.2.1) (Res.poolG kC 94 w0.heap.size x.2.2.2))) (n, c, hs, L) b (i := 0) rfl
theorem Sp.drEnd {w0 w : World} {rest : List Res} {gs : Nat} {code : List Int} {p s : Int} {r : Res} {A : Option Addr} {n c : Nat} {hs : List Sl} {L PS : List (Sl × List Cb)} (h : Sp w0 ([srcR w0 gs code p s, Res.row kSl 35 w0.heap.size (.slice A n c) hs, Res.poolG kC 94 w0.heap.size L, r] ++ rest) w) (h1 : PS.map Prod.fst = hs.take PS.length) (h2 : PS.length ≤ hs.length) (h3 : ∀ p ∈ PS, p ∈ L) : Sp w0 (srcR w0 gs code p s :: drR w0.heap.size A PS :: rest) w := by
 have h4 : Sp w0 ([Res.row kSl 35 w0.heap.size (.slice A n c) hs, Res.poolG kC 94 w0.heap.size L, srcR w0 gs code p s, r] ++ rest) w := Sp.arr (pre := [srcR w0 gs code p s, Res.row kSl 35 w0.heap.size (.slice A n c) hs, Res.poolG kC 94 w0.heap.size L, r]) (pre' := [Res.row kSl 35 w0.heap.size (.slice A n c) hs, Res.poolG kC 94 w0.heap.size L, srcR w0 gs code p s, r]) [1, 2, 0, 3] h rfl rfl
 exact Sp.out (Sp.swap (Sp.drClose h4 h1 h2 h3)) 2
theorem reps1C (w : World) (b : Nat) (ok : Nat → Prop) (x : Cb) : Kd.M kC w b ok x [.int .i64 x.f0, .int .i64 x.f1, .int .i64 x.f2] := k94_mkM _ _ _ x
theorem Sp.kPos {w0 w : World} {rs : List Res} {i j e e' base base' n c : Nat} {A : Option Addr} {PS : List (Sl × List Cb)} {L : List (Sl × List Cb)} (h : Sp w0 rs w) (hi : rs[i]? = some (Res.row kSl e base (.slice A n c) (PS.map Prod.fst))) (hj : rs[j]? = some (Res.poolG kC e' base' L)) (hL : ∀ p ∈ PS, p ∈ L) : kP.C w A PS.length (PS.map Prod.snd) := by
 have hr := (Sp.reads h hi).2.2
 rw [List.length_map] at hr
 exact kP_of hr (fun p hp => Sp.poolGC h hj (hL p hp))
theorem used_nil {k : Nat} {a b c : Int} {r : Bool} (h : spec_l27Used.f k [] a b c = some r) : r = false := by
 unfold spec_l27Used.f at h
 cases k with
 | zero => cases h
 | succ k => simp only [spec_l27Used.l0, List.length_nil] at h; rw [if_neg (by decide)] at h; exact (Option.some.inj h).symm
theorem wrap_pred (n : Nat) (h : 0 < n) (h2 : n ≤ 1000) : wrap64 ((n : Int) - 1) = ((n - 1 : Nat) : Int) := by unfold wrap64; omega
theorem five (r : Int) : r = 0 ∨ r = 1 ∨ r = 2 ∨ r = 3 ∨ ((r == 0) = false ∧ (r == 1) = false ∧ (r == 2) = false ∧ (r == 3) = false ∧ (r = 0) = False ∧ (r = 1) = False ∧ (r = 2) = False ∧ (r = 3) = False) := by
 by_cases a : r = 0
 ·exact .inl a
 ·by_cases b : r = 1
  ·exact .inr (.inl b)
  ·by_cases c : r = 2
   ·exact .inr (.inr (.inl c))
   ·by_cases d : r = 3
    ·exact .inr (.inr (.inr (.inl d)))
    ·exact .inr (.inr (.inr (.inr ⟨by rw [beq_eq_false_iff_ne]; exact a, by rw [beq_eq_false_iff_ne]; exact b, by rw [beq_eq_false_iff_ne]; exact c, by rw [beq_eq_false_iff_ne]; exact d, eq_false a, eq_false b, eq_false c, eq_false d⟩)))
theorem three (r : Int) : r = 0 ∨ r = 1 ∨ ((r == 0) = false ∧ (r == 1) = false ∧ (r = 0) = False ∧ (r = 1) = False) := by
 by_cases a : r = 0
 ·exact .inl a
 ·by_cases b : r = 1
  ·exact .inr (.inl b)
  ·exact .inr (.inr ⟨by rw [beq_eq_false_iff_ne]; exact a, by rw [beq_eq_false_iff_ne]; exact b, eq_false a, eq_false b⟩)
abbrev stepsL : List Cb := [(⟨0, 0, (-1)⟩ : Cb), (⟨0, (-1), 0⟩ : Cb), (⟨(-1), 0, 0⟩ : Cb), (⟨1, 0, 0⟩ : Cb), (⟨0, 1, 0⟩ : Cb), (⟨0, 0, 1⟩ : Cb)]
def drwF.T23 : Bool × List (List Nat × List Nat) := (true, [([], []), ([], []), ([0, 1], [0, 1]), ([2], [2]), ([], []), ([], []), ([], []), ([5, 6], [5, 6]), ([7], [7]), ([8], [8]), ([4, 9], [4, 9]), ([3, 10], [3, 10]), ([11], [11]), ([10], []), ([], []), ([14, 13], [14]), ([13, 15], [13, 15]), ([16], [16]), ([12, 17, 15], [12, 17]), ([], []), ([19, 18, 18, 0, 1, 2, 3, 4, 5, 6, 7, 8, 9, 10, 11, 12, 13, 14, 15, 16, 17, 18, 19], [18, 19])])
def drwF.B23 : List Nat := [0, 0, 3, 7, 0, 0, 0, 96, 224, 480, 1008, 2047, 4095, 2032, 0, 26608, 59376, 124912, 262143, 0, 1048575]
theorem drwF.tab23 : rtab .any (opsOf Try.f66 23) = drwF.T23 := by kernel_rfl
theorem drwF.bits23 : waitsOk drwF.T23.2 drwF.B23 = true := by kernel_rfl
def drwF.T25 : Bool × List (List Nat × List Nat) := (true, [([], []), ([], []), ([], []), ([], []), ([], []), ([3, 4], [3, 4]), ([5], [5]), ([2, 6], [2, 6]), ([], []), ([8], [8]), ([7, 9, 7], [7, 9]), ([10, 10], [10]), ([0, 1, 0, 1, 2, 3, 4, 5, 6, 7, 8, 9, 10, 11], [0, 1]), ([12, 11, 11, 0, 1, 2, 3, 4, 5, 6, 7, 8, 9, 10, 11], [11, 12])])
def drwF.B25 : List Nat := [0, 0, 0, 0, 0, 24, 56, 124, 0, 256, 1020, 2044, 4095, 8191]
theorem drwF.tab25 : rtab .any (opsOf Try.f66 25) = drwF.T25 := by kernel_rfl
theorem drwF.bits25 : waitsOk drwF.T25.2 drwF.B25 = true := by kernel_rfl
def drwF.T30 : Bool × List (List Nat × List Nat) := (true, [([], []), ([], []), ([1], [1]), ([2], [2]), ([], []), ([4], [4]), ([5], [5]), ([6], [6]), ([3, 7, 5], [3, 7]), ([0, 0, 1, 2, 3, 4, 5, 6, 7, 8], [0]), ([9, 8, 8, 0, 1, 2, 3, 4, 5, 6, 7, 8], [8, 9])])
def drwF.B30 : List Nat := [0, 0, 2, 6, 0, 16, 48, 112, 254, 511, 1023]
theorem drwF.tab30 : rtab .any (opsOf Try.f66 30) = drwF.T30 := by kernel_rfl
theorem drwF.bits30 : waitsOk drwF.T30.2 drwF.B30 = true := by kernel_rfl
set_option maxHeartbeats 16000000 in
set_option maxRecDepth 100000 in
theorem draw27_calls {w0 : World} {gs : Nat} {code : List Int} (hok : CodeOk code) {p s : Int} (hS : SrcOk code p s) (rest : List Res) (w : World) (hs : Sp w0 (srcR w0 gs code p s :: rest) w) :
  Calls Try.prog 66 #[.pointer (some ⟨gs, 0, none⟩)] w fun e w' => ∃ A c PS p' s', e = .returned (.agg #[.slice A PS.length c]) ∧ SrcOk code p' s' ∧ DrOk PS ∧ PS.length ≤ c ∧ Sp w0 (srcR w0 gs code p' s' :: drR w0.heap.size A PS :: rest) w' := by
 have hu69 := Try.underlying94
 have hu34 := Try.underlying35
 have hu32 := Try.underlying26
 have HS := A0_ hs
 have HOK := A0_ hok
 have HSR := A0_ hS
 clear hs hS hok
 go_enter Try.func66, Try.ntmps66
 go_wp2_with (first
  | (go_at_call 57; go_loud (obtain ⟨gr, hg_⟩ : ∃ g_, g_ = (w).heap.size := ⟨_, rfl⟩; obtain ⟨w1, hw_⟩ : ∃ w_, w_ = (w).alloc (.cells #[.slice none 0 0] 26) := ⟨_, rfl⟩; (try rw [← hw_]); (try rw [← hg_]); have HS_ := A0_ (Sp.box HS.out #[.slice none 0 0] 26); rw [← hw_, ← hg_] at HS_; clear HS; have HS := HS_; clear HS_ hw_ hg_; refine (next_calls HOK.out HSR.out 12 (Res.blk gr #[.slice none 0 0] 26 :: rest) _ (Sp.swap HS.out)).mono ?_; rintro e w2 ⟨r, p1, s1, rfl, hr_, hS1, hs_⟩; clear HSR; have HSR := A0_ hS1; have HR := A0_ hr_; replace HS := A0_ (hs_); clear hs_ hS1 hr_; rcases three r with h1_ | h1_ | ⟨z0, z1, z2, z3⟩; (subst h1_); (rotate_left; subst h1_); rotate_right))
  | (go_at_call 57; go_loud (refine (next_calls HOK.out HSR.out 3 (Res.row kSl 35 w0.heap.size (.slice Ah ([] : List Sl).length ch) ([] : List Sl) :: Res.blk gr #[.slice none 0 0] 26 :: rest) _ (Sp.swap HS.out)).mono ?_; rintro e w3 ⟨r2, p2, s2, rfl, hr_, hS1, hs_⟩; clear HSR; have HSR := A0_ hS1; replace HS := A0_ (hs_); obtain ⟨m, hm⟩ : ∃ m : Nat, r2 = (m : Int) := ⟨r2.toNat, by omega⟩; subst hm; have HM := A0_ (show m < 3 by omega); have hw2 : wrap64 (2 + (m : Int)) = ((m + 2 : Nat) : Int) := (by have := HM.out; unfold wrap64; omega); clear hs_ hS1 hr_))
  | ((with_reducible refine gate_dst (N := 47) rfl ?_); refine Kd.R_lit kC _ 94 ?hg (N := 47) ?hd (xs := ([⟨0, 0, 0⟩, ⟨1, 0, 0⟩, ⟨2, 0, 0⟩, ⟨0, 1, 0⟩, ⟨2, 1, 0⟩, ⟨2, 2, 0⟩] : List Cb)) (inner := [.int .i64 0, .int .i64 0, .int .i64 0, .int .i64 1, .int .i64 0, .int .i64 0, .int .i64 2, .int .i64 0, .int .i64 0, .int .i64 0, .int .i64 1, .int .i64 0, .int .i64 2, .int .i64 1, .int .i64 0, .int .i64 2, .int .i64 2, .int .i64 0]) (ok := fun _ => True) (okp := fun _ => True) ?hr ?hp (fun _ hk => hk) trivial (Below.refl _ _) (Nat.le_refl _) (by simp) ?_; (case hd => rfl); (case hg => rfl); (case hr => first | (go_simp; done) | (go_simp; rfl)); (case hp => exact (Reps.c3 (reps1C _ _ _ ⟨0, 0, 0⟩) (Reps.c3 (reps1C _ _ _ ⟨1, 0, 0⟩) (Reps.c3 (reps1C _ _ _ ⟨2, 0, 0⟩) (Reps.c3 (reps1C _ _ _ ⟨0, 1, 0⟩) (Reps.c3 (reps1C _ _ _ ⟨2, 1, 0⟩) (Reps.c3 (reps1C _ _ _ ⟨2, 2, 0⟩) (Reps.none _ _)))))))); intro vl_ wl_ ho_ hb_ hg_ hn_; clear hg_ hn_; replace HS := A0_ (Sp.made' HS.out hb_ ho_); clear ho_ hb_; obtain ⟨A1, c1, ev_⟩ := Sp.slice HS.out (i := 0) rfl; subst ev_)
  | ((with_reducible refine gate_dst (N := 51) rfl ?_); refine Kd.R_lit kC _ 94 ?hg (N := 51) ?hd (xs := ([⟨1, 1, 0⟩, ⟨1, 2, 0⟩, ⟨1, 3, 0⟩] : List Cb)) (inner := [.int .i64 1, .int .i64 1, .int .i64 0, .int .i64 1, .int .i64 2, .int .i64 0, .int .i64 1, .int .i64 3, .int .i64 0]) (ok := fun _ => True) (okp := fun _ => True) ?hr ?hp (fun _ hk => hk) trivial (Below.refl _ _) (Nat.le_refl _) (by simp) ?_; (case hd => rfl); (case hg => rfl); (case hr => first | (go_simp; done) | (go_simp; rfl)); (case hp => exact (Reps.c3 (reps1C _ _ _ ⟨1, 1, 0⟩) (Reps.c3 (reps1C _ _ _ ⟨1, 2, 0⟩) (Reps.c3 (reps1C _ _ _ ⟨1, 3, 0⟩) (Reps.none _ _))))); intro vl_ wl_ ho_ hb_ hg_ hn_; clear hg_ hn_; replace HS := A0_ (Sp.made' HS.out hb_ ho_); clear ho_ hb_; obtain ⟨A2, c2, ev_⟩ := Sp.slice HS.out (i := 0) rfl; subst ev_)
  | ((with_reducible refine gate_dst (N := 52) rfl ?_); refine Kd.R_lit kSl _ 35 ?hg (N := 52) ?hd (xs := ([(A1, 6, c1), (A2, 3, c2)] : List Sl)) (inner := [.slice A1 6 c1, .slice A2 3 c2]) (ok := fun _ => True) (okp := fun _ => True) ?hr ?hp (fun _ hk => hk) trivial (Below.refl _ _) (Nat.le_refl _) (by simp) ?_; (case hd => rfl); (case hg => rfl); (case hr => first | (go_simp; done) | (go_simp; rfl)); (case hp => exact (Reps.one rfl (Reps.one rfl (Reps.none _ _)))); intro vl_ wl_ ho_ hb_ hg_ hn_; clear hg_ hn_; replace HS := A0_ (Sp.made' HS.out hb_ ho_); clear ho_ hb_; obtain ⟨A3, c3, ev_⟩ := Sp.slice HS.out (i := 0) rfl; subst ev_)
  | ((with_reducible refine gate_store (t := 26) (p := 2) rfl ?_); refine store_event rfl rfl rfl (exec_store (v := .pointer (some ⟨gr, 0, none⟩)) (u := (.agg #[.slice A3 2 c3])) rfl ?hp ?hx (Sp.blkStore HS.out (i := 4) rfl ((.agg #[.slice A3 2 c3])) (#[.slice A3 2 c3]) rfl rfl (by kernel_rfl) (by first | (simp; done) | (simp [Value.oneCell']; done) | (simp; exact ⟨rfl, rfl, rfl⟩)))) ?_; (case hp => first | rfl | (go_simp; done) | (go_simp; rfl)); (case hx => first | rfl | (go_simp; done) | (go_simp; rfl)); intro ws_ hw_; have HS_ := A0_ (Sp.blkAll HS.out (i := 4) rfl (#[.slice A3 2 c3]) rfl); rw [← hw_] at HS_; clear HS hw_; have HS := HS_; clear HS_)
  | ((with_reducible refine gate_dst (N := 15) rfl ?_); refine Kd.R_lit kC _ 94 ?hg (N := 15) ?hd (xs := ([] : List Cb)) (inner := []) (ok := fun _ => True) (okp := fun _ => True) ?hr ?hp (fun _ hk => hk) trivial (Below.refl _ _) (Nat.le_refl _) (by simp) ?_; (case hd => rfl); (case hg => rfl); (case hr => first | (go_simp; done) | (go_simp; rfl)); (case hp => exact (Reps.none _ _)); intro vl_ wl_ ho_ hb_ hg_ hn_; clear hg_ hn_; replace HS := A0_ (Sp.made' HS.out hb_ ho_); clear ho_ hb_; obtain ⟨Ao, co, ev_⟩ := Sp.slice HS.out (i := 0) rfl; subst ev_)
  | ((with_reducible refine gate_dst (N := 54) rfl ?_); refine Kd.R_lit kSl _ 35 ?hg (N := 54) ?hd (xs := ([] : List Sl)) (inner := []) (ok := fun _ => True) (okp := fun _ => True) ?hr ?hp (fun _ hk => hk) trivial (Below.refl _ _) (Nat.le_refl _) (by simp) ?_; (case hd => rfl); (case hg => rfl); (case hr => first | (go_simp; done) | (go_simp; rfl)); (case hp => exact (Reps.none _ _)); intro vl_ wl_ ho_ hb_ hg_ hn_; clear hg_ hn_; replace HS := A0_ (Sp.made' HS.out hb_ ho_); clear ho_ hb_; obtain ⟨Ah, ch, ev_⟩ := Sp.slice HS.out (i := 0) rfl; subst ev_))
 ·go_loopg [3, 4] 10 (fun kq v3 v4 w' => ∃ (k : Nat) (l : List Cb) (Ao : Option Addr) (co : Nat), v4 = .int .i64 (k : Int) ∧ v3 = .slice Ao l.length co ∧ Aside0 (k ≤ 9 ∧ kq + k = 10 ∧ l.length ≤ k) ∧ Aside0 (Sp w0 ([Res.row kC 94 w0.heap.size (.slice Ao l.length co) l, srcR w0 gs code p1 s1, Res.blk gr #[.slice none 0 0] 26] ++ rest) w'))
  case atStart => exact ⟨0, [], Ao, co, rfl, rfl, ⟨by omega, by omega, by simp⟩, HS⟩
  case round =>
   clear HS
   obtain ⟨k, l, Ao, co, rfl, rfl, HX, HS⟩ := hrel
   obtain ⟨k1, rfl⟩ : ∃ k1, gk = k1 + 1 := ⟨gk - 1, by have := HX.out; omega⟩
   by_cases ck : k < 9
   ·have q0 : decide (k < 9) = true := decide_eq_true ck
    have q1 : ((k : Int) < 9) = True := eq_true (by omega)
    have q2 : (k < 9) = True := eq_true ck
    have HW := A0_ (wrap_succ k (by omega))
    have HCK := A0_ ck
    by_cases c4 : k = 4
    ·subst c4
     clear ck
     go_wp2
     go_roundg k1
     case measure => omega
     case rel => exact ⟨5, l, Ao, co, rfl, rfl, ⟨by omega, by have := HX.out; omega, by have := HX.out; omega⟩, HS⟩
    ·have z4 : ((k : Int) != 4) = true := by rw [bne_iff_ne]; omega
     have z5 : ((k : Int) == 4) = false := by rw [beq_eq_false_iff_ne]; omega
     have z6 : ((k : Int) = 4) = False := eq_false (by omega)
     have z7 : (k = 4) = False := eq_false c4
     clear ck c4
     go_wp2_with (first
      | ((with_reducible refine gate_dst (N := 30) rfl ?_); refine Kd.R_lit kC _ 94 ?hg (N := 30) ?hd (xs := ([(⟨(k : Int) % 3 + 1, wrap64 (wrap64 ((k : Int) / 3) + 1), 1⟩ : Cb)] : List Cb)) (inner := [.int .i64 ((k : Int) % 3 + 1), .int .i64 (wrap64 (wrap64 ((k : Int) / 3) + 1)), .int .i64 1]) (ok := fun _ => True) (okp := fun _ => True) ?hr ?hp (fun _ hk => hk) trivial (Below.refl _ _) (Nat.le_refl _) (by simp) ?_; (case hd => rfl); (case hg => rfl); (case hr => first | (go_simp; done) | (go_simp; rfl)); (case hp => exact (Reps.c3 (reps1C _ _ _ (⟨(k : Int) % 3 + 1, wrap64 (wrap64 ((k : Int) / 3) + 1), 1⟩ : Cb)) (Reps.none _ _))); intro vl_ wl_ ho_ hb_ hg_ hn_; clear hg_ hn_; replace HS := A0_ (Sp.made' HS.out hb_ ho_); clear ho_ hb_; obtain ⟨Al, cl, ev_⟩ := Sp.slice HS.out (i := 0) rfl; subst ev_)
      | ((with_reducible refine gate_builtin (b := .append) (xs := #[.tmp 22, .tmp 30]) rfl ?_); at_builtin; obtain ⟨fp_, ho_, hf_, hc_⟩ := Sp.row HS.out (i := 1) rfl; refine Kd.R_append_rows kC (w0 := w0) w0.heap.size rfl (.tmp 22) (.tmp 30) 35 94 ((.agg #[(.int .i64 0), (.int .i64 0), (.int .i64 0)])) 24 rfl Try.underlying35 info94 rfl (by decide) (by omega) (.slice Ao l.length co) (l) (([(⟨(k : Int) % 3 + 1, wrap64 (wrap64 ((k : Int) / 3) + 1), 1⟩ : Cb)] : List Cb)) _ _ _ _ (fun _ => False) rfl rfl ho_ ((Sp.reads HS.out (i := 0) rfl).2.2) (fun _ _ h => h) (fun _ h => h.elim) (fun _ h => Or.inr h) HS.out.below HS.out.below.size ?aL ?_; (case aL => (have := HX.out; simp only [List.length_cons, List.length_nil]; omega)); intro va_ wa_ ho hb hg hat; replace HS := A0_ (hc_ _ _ _ ho hg); clear ho hb hg hat hc_ hf_ ho_ fp_; obtain ⟨A2, c2, ev_⟩ := Sp.slice HS.out (i := 1) rfl; subst ev_))
     go_roundg k1
     case measure => omega
     case rel =>
      rw [HW.out]
      exact ⟨k + 1, _, A2, c2, rfl, by simp only [List.length_append, List.length_cons, List.length_nil], ⟨by have := HCK.out; omega, by have := HX.out; omega, by have := HX.out; rw [List.length_append]; simp only [List.length_cons, List.length_nil]; omega⟩, ⟨Sp.out HS.out 0⟩⟩
   ·have q0 : decide (k < 9) = false := decide_eq_false ck
    have q1 : ((k : Int) < 9) = False := eq_false (by omega)
    have q2 : (k < 9) = False := eq_false ck
    have HLL := A0_ (show l.length ≤ 9 by have := HX.out; omega)
    clear ck
    go_wp2_with (first
     | ((with_reducible refine gate_dst (N := 36) rfl ?_); refine Kd.R_lit kC _ 94 ?hg (N := 36) ?hd (xs := ([⟨2, 2, 0⟩, ⟨2, 2, 1⟩, ⟨2, 2, 2⟩] : List Cb)) (inner := [.int .i64 2, .int .i64 2, .int .i64 0, .int .i64 2, .int .i64 2, .int .i64 1, .int .i64 2, .int .i64 2, .int .i64 2]) (ok := fun _ => True) (okp := fun _ => True) ?hr ?hp (fun _ hk => hk) trivial (Below.refl _ _) (Nat.le_refl _) (by simp) ?_; (case hd => rfl); (case hg => rfl); (case hr => first | (go_simp; done) | (go_simp; rfl)); (case hp => exact (Reps.c3 (reps1C _ _ _ ⟨2, 2, 0⟩) (Reps.c3 (reps1C _ _ _ ⟨2, 2, 1⟩) (Reps.c3 (reps1C _ _ _ ⟨2, 2, 2⟩) (Reps.none _ _))))); intro vl_ wl_ ho_ hb_ hg_ hn_; clear hg_ hn_; replace HS := A0_ (Sp.made' HS.out hb_ ho_); clear ho_ hb_; obtain ⟨A2, c2, ev_⟩ := Sp.slice HS.out (i := 0) rfl; subst ev_)
     | ((with_reducible refine gate_dst (N := 37) rfl ?_); refine Kd.R_lit kSl _ 35 ?hg (N := 37) ?hd (xs := ([(Ao, l.length, co), (A2, 3, c2)] : List Sl)) (inner := [.slice Ao l.length co, .slice A2 3 c2]) (ok := fun _ => True) (okp := fun _ => True) ?hr ?hp (fun _ hk => hk) trivial (Below.refl _ _) (Nat.le_refl _) (by simp) ?_; (case hd => rfl); (case hg => rfl); (case hr => first | (go_simp; done) | (go_simp; rfl)); (case hp => exact (Reps.one rfl (Reps.one rfl (Reps.none _ _)))); intro vl_ wl_ ho_ hb_ hg_ hn_; clear hg_ hn_; replace HS := A0_ (Sp.made' HS.out hb_ ho_); clear ho_ hb_; obtain ⟨A3, c3, ev_⟩ := Sp.slice HS.out (i := 0) rfl; subst ev_)
     | ((with_reducible refine gate_store (t := 26) (p := 2) rfl ?_); refine store_event rfl rfl rfl (exec_store (v := .pointer (some ⟨gr, 0, none⟩)) (u := (.agg #[.slice A3 2 c3])) rfl ?hp ?hx (Sp.blkStore HS.out (i := 4) rfl ((.agg #[.slice A3 2 c3])) (#[.slice A3 2 c3]) rfl rfl (by kernel_rfl) (by first | (simp; done) | (simp [Value.oneCell']; done) | (simp; exact ⟨rfl, rfl, rfl⟩)))) ?_; (case hp => first | rfl | (go_simp; done) | (go_simp; rfl)); (case hx => first | rfl | (go_simp; done) | (go_simp; rfl)); intro ws_ hw_; have HS_ := A0_ (Sp.blkAll HS.out (i := 4) rfl (#[.slice A3 2 c3]) rfl); rw [← hw_] at HS_; clear HS hw_; have HS := HS_; clear HS_))
    (try simp only [Exit.inBlock, Exit.then]); refine bodyPost_ret (results_cell_row rfl _ _ gr 26 #[.slice A3 2 c3] (0, 0) _ rfl (Sp.blk HS.out (i := 4) rfl).1 Try.underlying26 rfl (by kernel_rfl)) rfl ?_
    have hc3 := (Sp.reads HS.out (i := 0) rfl).2.1
    have h0 : Sp w0 ([Res.poolG kC 94 w0.heap.size [], Res.row kSl 35 w0.heap.size (.slice A3 2 c3) ([(Ao, l.length, co), (A2, 3, c2)] : List Sl), Res.row kC 94 w0.heap.size (.slice A2 3 c2) ([⟨2, 2, 0⟩, ⟨2, 2, 1⟩, ⟨2, 2, 2⟩] : List Cb), Res.row kC 94 w0.heap.size (.slice Ao l.length co) l, srcR w0 gs code p1 s1, Res.blk gr #[.slice A3 2 c3] 26] ++ rest) _ := Sp.poolGNil kC 94 HS.out
    have h1 := Sp.poolGAdd (show Sp w0 (Res.row kC 94 w0.heap.size (.slice Ao l.length co) l :: Res.poolG kC 94 w0.heap.size [] :: ([Res.row kSl 35 w0.heap.size (.slice A3 2 c3) ([(Ao, l.length, co), (A2, 3, c2)] : List Sl), Res.row kC 94 w0.heap.size (.slice A2 3 c2) ([⟨2, 2, 0⟩, ⟨2, 2, 1⟩, ⟨2, 2, 2⟩] : List Cb), srcR w0 gs code p1 s1, Res.blk gr #[.slice A3 2 c3] 26] ++ rest)) _ from Sp.arr (pre' := [Res.row kC 94 w0.heap.size (.slice Ao l.length co) l, Res.poolG kC 94 w0.heap.size [], Res.row kSl 35 w0.heap.size (.slice A3 2 c3) ([(Ao, l.length, co), (A2, 3, c2)] : List Sl), Res.row kC 94 w0.heap.size (.slice A2 3 c2) ([⟨2, 2, 0⟩, ⟨2, 2, 1⟩, ⟨2, 2, 2⟩] : List Cb), srcR w0 gs code p1 s1, Res.blk gr #[.slice A3 2 c3] 26]) [3, 0, 1, 2, 4, 5] h0 rfl rfl)
    have h2 := Sp.poolGAdd (show Sp w0 (Res.row kC 94 w0.heap.size (.slice A2 3 c2) ([⟨2, 2, 0⟩, ⟨2, 2, 1⟩, ⟨2, 2, 2⟩] : List Cb) :: Res.poolG kC 94 w0.heap.size ([] ++ [((Ao, l.length, co), l)]) :: ([Res.row kSl 35 w0.heap.size (.slice A3 2 c3) ([(Ao, l.length, co), (A2, 3, c2)] : List Sl), srcR w0 gs code p1 s1, Res.blk gr #[.slice A3 2 c3] 26] ++ rest)) _ from Sp.arr (pre := [Res.poolG kC 94 w0.heap.size ([] ++ [((Ao, l.length, co), l)]), Res.row kSl 35 w0.heap.size (.slice A3 2 c3) ([(Ao, l.length, co), (A2, 3, c2)] : List Sl), Res.row kC 94 w0.heap.size (.slice A2 3 c2) ([⟨2, 2, 0⟩, ⟨2, 2, 1⟩, ⟨2, 2, 2⟩] : List Cb), srcR w0 gs code p1 s1, Res.blk gr #[.slice A3 2 c3] 26]) (pre' := [Res.row kC 94 w0.heap.size (.slice A2 3 c2) ([⟨2, 2, 0⟩, ⟨2, 2, 1⟩, ⟨2, 2, 2⟩] : List Cb), Res.poolG kC 94 w0.heap.size ([] ++ [((Ao, l.length, co), l)]), Res.row kSl 35 w0.heap.size (.slice A3 2 c3) ([(Ao, l.length, co), (A2, 3, c2)] : List Sl), srcR w0 gs code p1 s1, Res.blk gr #[.slice A3 2 c3] 26]) [2, 0, 1, 3, 4] h1 rfl rfl)
    have h3 : Sp w0 (Res.row kSl 35 w0.heap.size (.slice A3 2 c3) ([(Ao, l.length, co), (A2, 3, c2)] : List Sl) :: Res.poolG kC 94 w0.heap.size (([] ++ [((Ao, l.length, co), l)]) ++ [((A2, 3, c2), ([⟨2, 2, 0⟩, ⟨2, 2, 1⟩, ⟨2, 2, 2⟩] : List Cb))]) :: ([srcR w0 gs code p1 s1, Res.blk gr #[.slice A3 2 c3] 26] ++ rest)) _ := Sp.swap h2
    have h4 := Sp.drClose (PS := [((Ao, l.length, co), l), ((A2, 3, c2), ([⟨2, 2, 0⟩, ⟨2, 2, 1⟩, ⟨2, 2, 2⟩] : List Cb))]) h3 rfl (by simp) (fun q hq => hq)
    exact ⟨A3, c3, [((Ao, l.length, co), l), ((A2, 3, c2), ([⟨2, 2, 0⟩, ⟨2, 2, 1⟩, ⟨2, 2, 2⟩] : List Cb))], p1, s1, rfl, HSR.out, ⟨by simp, fun q hq => by
     rcases List.mem_cons.1 hq with rfl | hq
     ·have := HLL.out; show l.length ≤ 64; omega
     ·obtain rfl := List.mem_singleton.1 hq
      simp⟩, hc3, Sp.out (Sp.swap h4) 2⟩
 ·(try simp only [Exit.inBlock, Exit.then]); refine bodyPost_ret (results_cell_row rfl _ _ gr 26 #[.slice A3 2 c3] (0, 0) _ rfl (Sp.blk HS.out (i := 4) rfl).1 Try.underlying26 rfl (by kernel_rfl)) rfl ?_
  have hc3 := (Sp.reads HS.out (i := 0) rfl).2.1
  have h0 : Sp w0 ([Res.poolG kC 94 w0.heap.size [], Res.row kSl 35 w0.heap.size (.slice A3 2 c3) ([(A1, 6, c1), (A2, 3, c2)] : List Sl), Res.row kC 94 w0.heap.size (.slice A2 3 c2) ([⟨1, 1, 0⟩, ⟨1, 2, 0⟩, ⟨1, 3, 0⟩] : List Cb), Res.row kC 94 w0.heap.size (.slice A1 6 c1) ([⟨0, 0, 0⟩, ⟨1, 0, 0⟩, ⟨2, 0, 0⟩, ⟨0, 1, 0⟩, ⟨2, 1, 0⟩, ⟨2, 2, 0⟩] : List Cb), srcR w0 gs code p1 s1, Res.blk gr #[.slice A3 2 c3] 26] ++ rest) _ := Sp.poolGNil kC 94 HS.out
  have h1 := Sp.poolGAdd (show Sp w0 (Res.row kC 94 w0.heap.size (.slice A1 6 c1) ([⟨0, 0, 0⟩, ⟨1, 0, 0⟩, ⟨2, 0, 0⟩, ⟨0, 1, 0⟩, ⟨2, 1, 0⟩, ⟨2, 2, 0⟩] : List Cb) :: Res.poolG kC 94 w0.heap.size [] :: ([Res.row kSl 35 w0.heap.size (.slice A3 2 c3) ([(A1, 6, c1), (A2, 3, c2)] : List Sl), Res.row kC 94 w0.heap.size (.slice A2 3 c2) ([⟨1, 1, 0⟩, ⟨1, 2, 0⟩, ⟨1, 3, 0⟩] : List Cb), srcR w0 gs code p1 s1, Res.blk gr #[.slice A3 2 c3] 26] ++ rest)) _ from Sp.arr (pre' := [Res.row kC 94 w0.heap.size (.slice A1 6 c1) ([⟨0, 0, 0⟩, ⟨1, 0, 0⟩, ⟨2, 0, 0⟩, ⟨0, 1, 0⟩, ⟨2, 1, 0⟩, ⟨2, 2, 0⟩] : List Cb), Res.poolG kC 94 w0.heap.size [], Res.row kSl 35 w0.heap.size (.slice A3 2 c3) ([(A1, 6, c1), (A2, 3, c2)] : List Sl), Res.row kC 94 w0.heap.size (.slice A2 3 c2) ([⟨1, 1, 0⟩, ⟨1, 2, 0⟩, ⟨1, 3, 0⟩] : List Cb), srcR w0 gs code p1 s1, Res.blk gr #[.slice A3 2 c3] 26]) [3, 0, 1, 2, 4, 5] h0 rfl rfl)
  have h2 := Sp.poolGAdd (show Sp w0 (Res.row kC 94 w0.heap.size (.slice A2 3 c2) ([⟨1, 1, 0⟩, ⟨1, 2, 0⟩, ⟨1, 3, 0⟩] : List Cb) :: Res.poolG kC 94 w0.heap.size ([] ++ [((A1, 6, c1), ([⟨0, 0, 0⟩, ⟨1, 0, 0⟩, ⟨2, 0, 0⟩, ⟨0, 1, 0⟩, ⟨2, 1, 0⟩, ⟨2, 2, 0⟩] : List Cb))]) :: ([Res.row kSl 35 w0.heap.size (.slice A3 2 c3) ([(A1, 6, c1), (A2, 3, c2)] : List Sl), srcR w0 gs code p1 s1, Res.blk gr #[.slice A3 2 c3] 26] ++ rest)) _ from Sp.arr (pre := [Res.poolG kC 94 w0.heap.size ([] ++ [((A1, 6, c1), ([⟨0, 0, 0⟩, ⟨1, 0, 0⟩, ⟨2, 0, 0⟩, ⟨0, 1, 0⟩, ⟨2, 1, 0⟩, ⟨2, 2, 0⟩] : List Cb))]), Res.row kSl 35 w0.heap.size (.slice A3 2 c3) ([(A1, 6, c1), (A2, 3, c2)] : List Sl), Res.row kC 94 w0.heap.size (.slice A2 3 c2) ([⟨1, 1, 0⟩, ⟨1, 2, 0⟩, ⟨1, 3, 0⟩] : List Cb), srcR w0 gs code p1 s1, Res.blk gr #[.slice A3 2 c3] 26]) (pre' := [Res.row kC 94 w0.heap.size (.slice A2 3 c2) ([⟨1, 1, 0⟩, ⟨1, 2, 0⟩, ⟨1, 3, 0⟩] : List Cb), Res.poolG kC 94 w0.heap.size ([] ++ [((A1, 6, c1), ([⟨0, 0, 0⟩, ⟨1, 0, 0⟩, ⟨2, 0, 0⟩, ⟨0, 1, 0⟩, ⟨2, 1, 0⟩, ⟨2, 2, 0⟩] : List Cb))]), Res.row kSl 35 w0.heap.size (.slice A3 2 c3) ([(A1, 6, c1), (A2, 3, c2)] : List Sl), srcR w0 gs code p1 s1, Res.blk gr #[.slice A3 2 c3] 26]) [2, 0, 1, 3, 4] h1 rfl rfl)
  have h3 : Sp w0 (Res.row kSl 35 w0.heap.size (.slice A3 2 c3) ([(A1, 6, c1), (A2, 3, c2)] : List Sl) :: Res.poolG kC 94 w0.heap.size (([] ++ [((A1, 6, c1), ([⟨0, 0, 0⟩, ⟨1, 0, 0⟩, ⟨2, 0, 0⟩, ⟨0, 1, 0⟩, ⟨2, 1, 0⟩, ⟨2, 2, 0⟩] : List Cb))]) ++ [((A2, 3, c2), ([⟨1, 1, 0⟩, ⟨1, 2, 0⟩, ⟨1, 3, 0⟩] : List Cb))]) :: ([srcR w0 gs code p1 s1, Res.blk gr #[.slice A3 2 c3] 26] ++ rest)) _ := Sp.swap h2
  have h4 := Sp.drClose (PS := [((A1, 6, c1), ([⟨0, 0, 0⟩, ⟨1, 0, 0⟩, ⟨2, 0, 0⟩, ⟨0, 1, 0⟩, ⟨2, 1, 0⟩, ⟨2, 2, 0⟩] : List Cb)), ((A2, 3, c2), ([⟨1, 1, 0⟩, ⟨1, 2, 0⟩, ⟨1, 3, 0⟩] : List Cb))]) h3 rfl (by simp) (fun q hq => hq)
  exact ⟨A3, c3, [((A1, 6, c1), ([⟨0, 0, 0⟩, ⟨1, 0, 0⟩, ⟨2, 0, 0⟩, ⟨0, 1, 0⟩, ⟨2, 1, 0⟩, ⟨2, 2, 0⟩] : List Cb)), ((A2, 3, c2), ([⟨1, 1, 0⟩, ⟨1, 2, 0⟩, ⟨1, 3, 0⟩] : List Cb))], p1, s1, rfl, HSR.out, ⟨by simp, fun q hq => by
   rcases List.mem_cons.1 hq with rfl | hq
   ·simp
   ·obtain rfl := List.mem_singleton.1 hq
    simp⟩, hc3, Sp.out (Sp.swap h4) 2⟩
 ·clear z0 z1 z2 z3 HR
  have h0 : Sp w0 ([Res.poolG kC 94 w0.heap.size [], srcR w0 gs code p2 s2, Res.row kSl 35 w0.heap.size (.slice Ah ([] : List Sl).length ch) ([] : List Sl), Res.blk gr #[.slice none 0 0] 26] ++ rest) _ := Sp.poolGNil kC 94 HS.out
  have HS_ := A0_ (Sp.arr (pre' := [srcR w0 gs code p2 s2, Res.row kSl 35 w0.heap.size (.slice Ah ([] : List Sl).length ch) ([] : List Sl), Res.poolG kC 94 w0.heap.size [], Res.blk gr #[.slice none 0 0] 26]) [1, 2, 0, 3] h0 rfl rfl)
  clear HS h0
  have HS := HS_
  clear HS_
  go_loopg [5, 6] (m + 3) (fun kq v5 v6 w' => ∃ (n : Nat) (PS : List (Sl × List Cb)) (A : Option Addr) (c : Nat) (p s : Int), v6 = .int .i64 (n : Int) ∧ v5 = .slice A PS.length c ∧ Aside0 (kq = n + 1 ∧ PS.length + n ≤ 4 ∧ 1 ≤ PS.length + n ∧ (∀ q ∈ PS, q.2.length = 1) ∧ SrcOk code p s) ∧ Aside0 (Sp w0 ([srcR w0 gs code p s, Res.row kSl 35 w0.heap.size (.slice A PS.length c) (PS.map Prod.fst), Res.poolG kC 94 w0.heap.size PS, Res.blk gr #[.slice none 0 0] 26] ++ rest) w'))
  case atStart => exact ⟨m + 2, [], Ah, ch, p2, s2, by rw [hw2], rfl, ⟨by omega, by have := HM.out; simp only [List.length_nil]; omega, by omega, fun q hq => (by cases hq), HSR.out⟩, HS⟩
  case round =>
   clear HS HSR hw2
   obtain ⟨n, PS, A, c, p, s, rfl, rfl, HX, HS⟩ := hrel
   obtain ⟨k1, rfl⟩ : ∃ k1, gk = k1 + 1 := ⟨gk - 1, by have := HX.out.1; omega⟩
   have HSR := A0_ HX.out.2.2.2.2
   by_cases cn : 0 < n
   ·have q0 : decide (0 < n) = true := decide_eq_true cn
    have q1 : ((n : Int) > 0) = True := eq_true (by omega)
    have q2 : ((0 : Int) < (n : Int)) = True := eq_true (by omega)
    have q3 : (0 < n) = True := eq_true cn
    have HCN := A0_ cn
    have T1 := A0_ trivial
    have T2 := A0_ trivial
    have T3 := A0_ trivial
    clear cn
    go_wp2_with (first
     | (go_at_call 57; go_loud (have t_ := T1.out; refine (next_calls HOK.out HSR.out _ ([Res.row kSl 35 w0.heap.size (.slice A PS.length c) (PS.map Prod.fst), Res.poolG kC 94 w0.heap.size PS, Res.blk gr #[.slice none 0 0] 26] ++ rest) _ HS.out).mono ?_; rintro e w41 ⟨rx, px, sx, rfl, hr_, hS1, hs_⟩; clear HSR T1; have HSR := A0_ hS1; replace HS := A0_ (hs_); obtain ⟨x1, hx1⟩ : ∃ x_, wrap64 (1 + rx) = x_ := ⟨_, rfl⟩; clear hs_ hS1 hr_ t_))
     | (go_at_call 57; go_loud (have t_ := T2.out; refine (next_calls HOK.out HSR.out _ ([Res.row kSl 35 w0.heap.size (.slice A PS.length c) (PS.map Prod.fst), Res.poolG kC 94 w0.heap.size PS, Res.blk gr #[.slice none 0 0] 26] ++ rest) _ HS.out).mono ?_; rintro e w42 ⟨rx, px, sx, rfl, hr_, hS1, hs_⟩; clear HSR T2; have HSR := A0_ hS1; replace HS := A0_ (hs_); obtain ⟨x2, hx2⟩ : ∃ x_, wrap64 (1 + rx) = x_ := ⟨_, rfl⟩; clear hs_ hS1 hr_ t_))
     | (go_at_call 57; go_loud (have t_ := T3.out; refine (next_calls HOK.out HSR.out _ ([Res.row kSl 35 w0.heap.size (.slice A PS.length c) (PS.map Prod.fst), Res.poolG kC 94 w0.heap.size PS, Res.blk gr #[.slice none 0 0] 26] ++ rest) _ HS.out).mono ?_; rintro e w43 ⟨rx, px, sx, rfl, hr_, hS1, hs_⟩; clear HSR T3; have HSR := A0_ hS1; replace HS := A0_ (hs_); obtain ⟨x3, hx3⟩ : ∃ x_, wrap64 (1 + rx) = x_ := ⟨_, rfl⟩; clear hs_ hS1 hr_ t_))
     | (go_at_call 94; go_loud (obtain ⟨gc, hg_⟩ : ∃ g_, g_ = (w43).heap.size := ⟨_, rfl⟩; obtain ⟨wq, hw_⟩ : ∃ w_, w_ = (w43).alloc (.cells #[.int .i64 x1, .int .i64 x2, .int .i64 x3] 94) := ⟨_, rfl⟩; (try rw [← hw_]); (try rw [← hg_]); have HS_ := A0_ (Sp.box HS.out #[.int .i64 x1, .int .i64 x2, .int .i64 x3] 94); rw [← hw_, ← hg_] at HS_; clear HS; have HS := HS_; clear HS_ hw_ hg_; obtain ⟨b, hb_⟩ := used_ev (PS.map Prod.snd) (⟨x1, x2, x3⟩ : Cb) (by rw [List.length_map]; have := HX.out.2.1; omega) (fun q hq => by obtain ⟨z, hz, rfl⟩ := List.mem_map.1 hq; have := HX.out.2.2.2.1 z hz; omega); obtain ⟨KU, hK_⟩ := hb_.rounds; have hu_ := spec_l27Used.calls KU A c (PS.map Prod.snd) x1 x2 x3 b wq (by rw [List.length_map]; exact Sp.kPos HS.out (i := 2) (j := 3) rfl rfl (fun q hq => hq)) (by rw [List.length_map]; exact (Sp.reads HS.out (i := 2) rfl).2.1) hK_; rw [List.length_map] at hu_; refine hu_.mono ?_; rintro e wu_ ⟨rfl, hbl_⟩; replace HS := A0_ (Sp.far HS.out hbl_); clear hu_ hb_ hbl_; have HUN := A0_ (show PS = [] → b = false from fun e_ => used_nil (by rw [e_] at hK_; exact hK_)); clear hK_; have hc0 := (cl_ HS 0 0 rfl).trans rfl; have hc1 := (cl_ HS 0 1 rfl).trans rfl; have hc2 := (cl_ HS 0 2 rfl).trans rfl; cases b))
     | ((with_reducible refine gate_dst (N := 78) rfl ?_); refine Kd.R_lit kC _ 94 ?hg (N := 78) ?hd (xs := ([(⟨x1, x2, x3⟩ : Cb)] : List Cb)) (inner := [.int .i64 x1, .int .i64 x2, .int .i64 x3]) (ok := fun _ => True) (okp := fun _ => True) ?hr ?hp (fun _ hk => hk) trivial (Below.refl _ _) (Nat.le_refl _) (by simp) ?_; (case hd => rfl); (case hg => rfl); (case hr => first | (go_simp; done) | (go_simp; rfl)); (case hp => exact (Reps.c3 (reps1C _ _ _ (⟨x1, x2, x3⟩ : Cb)) (Reps.none _ _))); intro vl_ wl_ ho_ hb_ hg_ hn_; clear hg_ hn_; replace HS := A0_ (Sp.made' HS.out hb_ ho_); clear ho_ hb_; obtain ⟨Al, cl, ev_⟩ := Sp.slice HS.out (i := 0) rfl; subst ev_; clear hc0 hc1 hc2)
     | ((with_reducible refine gate_dst (N := 79) rfl ?_); refine Kd.R_lit kSl _ 35 ?hg (N := 79) ?hd (xs := ([(Al, 1, cl)] : List Sl)) (inner := [.slice Al 1 cl]) (ok := fun _ => True) (okp := fun _ => True) ?hr ?hp (fun _ hk => hk) trivial (Below.refl _ _) (Nat.le_refl _) (by simp) ?_; (case hd => rfl); (case hg => rfl); (case hr => first | (go_simp; done) | (go_simp; rfl)); (case hp => exact (Reps.one rfl (Reps.none _ _))); intro vl_ wl_ ho_ hb_ hg_ hn_; clear hg_ hn_; replace HS := A0_ (Sp.made' HS.out hb_ ho_); clear ho_ hb_; obtain ⟨Ag, cg, ev_⟩ := Sp.slice HS.out (i := 0) rfl; subst ev_)
     | ((with_reducible refine gate_builtin (b := .append) (xs := #[.tmp 76, .tmp 79]) rfl ?_); at_builtin; obtain ⟨fp_, ho_, hf_, hc_⟩ := Sp.row HS.out (i := 4) rfl; refine Kd.R_append_rows kSl (w0 := w0) w0.heap.size rfl (.tmp 76) (.tmp 79) 24 35 ((.slice none 0 0)) 24 rfl Try.underlying24 info35 rfl (by decide) (by omega) (.slice A PS.length c) ((PS.map Prod.fst)) (([(Al, 1, cl)] : List Sl)) _ _ _ _ (fun _ => False) rfl rfl ho_ ((Sp.reads HS.out (i := 0) rfl).2.2) (fun _ _ h => h) (fun _ h => h.elim) (fun _ h => Or.inr h) HS.out.below HS.out.below.size ?aL ?_; (case aL => (have := HX.out.2.1; simp only [List.length_cons, List.length_nil, List.length_map]; omega)); intro va_ wa_ ho hb hg hat; replace HS := A0_ (hc_ _ _ _ ho hg); clear ho hb hg hat hc_ hf_ ho_ fp_; obtain ⟨A2, c2, ev_⟩ := Sp.slice HS.out (i := 4) rfl; subst ev_))
    ·go_roundg k1
     case measure => omega
     case rel =>
      rw [wrap_pred n HCN.out (by have := HX.out.2.1; omega)]
      have h1 := Sp.poolGAdd (show Sp w0 (Res.row kC 94 w0.heap.size (.slice Al 1 cl) ([⟨x1, x2, x3⟩] : List Cb) :: Res.poolG kC 94 w0.heap.size PS :: ([Res.row kSl 35 w0.heap.size (.slice Ag 1 cg) ([(Al, 1, cl)] : List Sl), Res.blk gc #[.int .i64 x1, .int .i64 x2, .int .i64 x3] 94, srcR w0 gs code _ _, Res.row kSl 35 w0.heap.size (.slice A2 (PS.map Prod.fst ++ ([(Al, 1, cl)] : List Sl)).length c2) (PS.map Prod.fst ++ ([(Al, 1, cl)] : List Sl)), Res.blk gr #[.slice none 0 0] 26] ++ rest)) _ from Sp.arr (pre := [Res.row kSl 35 w0.heap.size (.slice Ag 1 cg) ([(Al, 1, cl)] : List Sl), Res.row kC 94 w0.heap.size (.slice Al 1 cl) ([⟨x1, x2, x3⟩] : List Cb), Res.blk gc #[.int .i64 x1, .int .i64 x2, .int .i64 x3] 94, srcR w0 gs code _ _, Res.row kSl 35 w0.heap.size (.slice A2 (PS.map Prod.fst ++ ([(Al, 1, cl)] : List Sl)).length c2) (PS.map Prod.fst ++ ([(Al, 1, cl)] : List Sl)), Res.poolG kC 94 w0.heap.size PS, Res.blk gr #[.slice none 0 0] 26]) (pre' := [Res.row kC 94 w0.heap.size (.slice Al 1 cl) ([⟨x1, x2, x3⟩] : List Cb), Res.poolG kC 94 w0.heap.size PS, Res.row kSl 35 w0.heap.size (.slice Ag 1 cg) ([(Al, 1, cl)] : List Sl), Res.blk gc #[.int .i64 x1, .int .i64 x2, .int .i64 x3] 94, srcR w0 gs code _ _, Res.row kSl 35 w0.heap.size (.slice A2 (PS.map Prod.fst ++ ([(Al, 1, cl)] : List Sl)).length c2) (PS.map Prod.fst ++ ([(Al, 1, cl)] : List Sl)), Res.blk gr #[.slice none 0 0] 26]) [1, 5, 0, 2, 3, 4, 6] HS.out rfl rfl)
      have h2 : Sp w0 ([Res.poolG kC 94 w0.heap.size (PS ++ [((Al, 1, cl), ([⟨x1, x2, x3⟩] : List Cb))]), srcR w0 gs code _ _, Res.row kSl 35 w0.heap.size (.slice A2 (PS.map Prod.fst ++ ([(Al, 1, cl)] : List Sl)).length c2) (PS.map Prod.fst ++ ([(Al, 1, cl)] : List Sl)), Res.blk gr #[.slice none 0 0] 26] ++ rest) _ := Sp.out (Sp.out h1 1) 1
      have h3 := Sp.arr (pre' := [srcR w0 gs code _ _, Res.row kSl 35 w0.heap.size (.slice A2 (PS.map Prod.fst ++ ([(Al, 1, cl)] : List Sl)).length c2) (PS.map Prod.fst ++ ([(Al, 1, cl)] : List Sl)), Res.poolG kC 94 w0.heap.size (PS ++ [((Al, 1, cl), ([⟨x1, x2, x3⟩] : List Cb))]), Res.blk gr #[.slice none 0 0] 26]) [1, 2, 0, 3] h2 rfl rfl
      have el : (PS ++ [((Al, 1, cl), ([⟨x1, x2, x3⟩] : List Cb))]).length = PS.length + 1 := by simp
      have em : (PS ++ [((Al, 1, cl), ([⟨x1, x2, x3⟩] : List Cb))]).map Prod.fst = PS.map Prod.fst ++ ([(Al, 1, cl)] : List Sl) := by simp
      have en : (PS.map Prod.fst ++ ([(Al, 1, cl)] : List Sl)).length = (PS ++ [((Al, 1, cl), ([⟨x1, x2, x3⟩] : List Cb))]).length := by simp
      rw [en] at h3
      refine ⟨n - 1, PS ++ [((Al, 1, cl), ([⟨x1, x2, x3⟩] : List Cb))], A2, c2, _, _, rfl, by rw [el], ⟨by have := HX.out.1; have := HCN.out; omega, by rw [el]; have := HX.out.2.1; have := HCN.out; omega, by rw [el]; omega, fun q hq => ?_, HSR.out⟩, ⟨by rw [em]; exact h3⟩⟩
      rcases List.mem_append.1 hq with hq | hq
      ·exact HX.out.2.2.2.1 q hq
      ·obtain rfl := List.mem_singleton.1 hq; rfl
    ·go_roundg k1
     case measure => omega
     case rel =>
      rw [wrap_pred n HCN.out (by have := HX.out.2.1; omega)]
      have hne : 1 ≤ PS.length := by
       rcases Nat.eq_zero_or_pos PS.length with h | h
       ·exact absurd (HUN.out (List.length_eq_zero_iff.1 h)) (by simp)
       ·exact h
      exact ⟨n - 1, PS, A, c, _, _, rfl, rfl, ⟨by have := HX.out.1; have := HCN.out; omega, by have := HX.out.2.1; omega, by omega, HX.out.2.2.2.1, HSR.out⟩, ⟨Sp.out HS.out 0⟩⟩
   ·have q0 : decide (0 < n) = false := decide_eq_false cn
    have q1 : ((n : Int) > 0) = False := eq_false (by omega)
    have q2 : ((0 : Int) < (n : Int)) = False := eq_false (by omega)
    have q3 : (0 < n) = False := eq_false cn
    have HPN := A0_ (show 1 ≤ PS.length ∧ PS.length ≤ 4 by have := HX.out; omega)
    have HP1 := A0_ HX.out.2.2.2.1
    clear cn
    go_wp2_with (first
     | (go_at_call 57; go_loud (refine (next_calls HOK.out HSR.out _ ([Res.row kSl 35 w0.heap.size (.slice A PS.length c) (PS.map Prod.fst), Res.poolG kC 94 w0.heap.size PS, Res.blk gr #[.slice none 0 0] 26] ++ rest) _ HS.out).mono ?_; rintro e w5 ⟨r3, p3, s3, rfl, hr_, hS1, hs_⟩; clear HSR; have HSR := A0_ hS1; replace HS := A0_ (hs_); obtain ⟨n0, hn0⟩ : ∃ n0 : Nat, r3 = (n0 : Int) := ⟨r3.toNat, by omega⟩; subst hn0; have HN0 := A0_ (show n0 < 14 by omega); clear hs_ hS1 hr_)))
    clear q0 q1 q2 q3
    go_loopg [8] (n0 + 1) (fun kq v8 w' => ∃ (n : Nat) (QS L : List (Sl × List Cb)) (p s : Int), v8 = .int .i64 (n : Int) ∧ Aside0 (kq = n + 1 ∧ QS.length = PS.length ∧ (∀ q ∈ QS, q ∈ L) ∧ (∀ q ∈ QS, 1 ≤ q.2.length ∧ q.2.length + n ≤ 15) ∧ SrcOk code p s) ∧ Aside0 (Sp w0 ([srcR w0 gs code p s, Res.row kSl 35 w0.heap.size (.slice A PS.length c) (QS.map Prod.fst), Res.poolG kC 94 w0.heap.size L, Res.blk gr #[.slice none 0 0] 26] ++ rest) w'))
    case atStart => exact ⟨n0, PS, PS, p3, s3, rfl, ⟨rfl, rfl, fun q hq => hq, fun q hq => by have := HP1.out q hq; have := HN0.out; omega, HSR.out⟩, HS⟩
    case round =>
     clear HS HSR
     obtain ⟨n, QS, L, p, s, rfl, HY, HS⟩ := hrel
     obtain ⟨k1, rfl⟩ : ∃ k1, gk = k1 + 1 := ⟨gk - 1, by have := HY.out.1; omega⟩
     have HSR := A0_ HY.out.2.2.2.2
     by_cases cn : 0 < n
     ·have q0 : decide (0 < n) = true := decide_eq_true cn
      have q1 : ((n : Int) > 0) = True := eq_true (by omega)
      have q2 : ((0 : Int) < (n : Int)) = True := eq_true (by omega)
      have q3 : (0 < n) = True := eq_true cn
      have HCN := A0_ cn
      obtain ⟨ad, e_⟩ := Sp.some_ HS.out (i := 1) rfl (by have := HPN.out; omega)
      subst e_
      clear cn
      go_upto_region 23 with (first
       | (go_at_call 57; go_loud (refine (next_nat HOK.out HSR.out PS.length (by have := HPN.out; omega) (i := 0) rfl _ HS.out).mono ?_; rintro e w5 ⟨k0, p5, s5, rfl, hr_, hS1, hs_⟩; clear HSR; have HSR := A0_ hS1; replace HS := A0_ (hs_); have HK0 := A0_ hr_; clear hs_ hS1 hr_)))
      have HS_ : Aside0 (Sp w0 ([srcR w0 gs code p5 s5, Res.row kSl 35 w0.heap.size (.slice (some ad) PS.length c) (QS.map Prod.fst), Res.poolG kC 94 w0.heap.size L, Res.blk gr #[.slice none 0 0] 26] ++ rest) _) := HS; clear HS; have HS := HS_; clear HS_
      obtain ⟨⟨⟨Aq, nq, cq⟩, oq⟩, hq_⟩ : ∃ q, q = QS.getD k0 default := ⟨_, rfl⟩
      have hkq : k0 < QS.length := by have := HY.out.2.1; have := HK0.out; omega
      have hqm : ((Aq, nq, cq), oq) ∈ QS := by rw [hq_, List.getD_eq_getElem?_getD, List.getElem?_eq_getElem hkq]; exact List.getElem_mem hkq
      have HQK := A0_ (show (QS.map Prod.fst).getD k0 (none, 0, 0) = (Aq, nq, cq) by rw [List.getD_eq_getElem?_getD, List.getElem?_map, List.getElem?_eq_getElem hkq]; rw [List.getD_eq_getElem?_getD, List.getElem?_eq_getElem hkq] at hq_; simp only [Option.map_some, Option.getD_some] at hq_ ⊢; rw [← hq_])
      have HQM := A0_ (HY.out.2.2.1 _ hqm)
      have HQ2 := A0_ (HY.out.2.2.2.1 _ hqm)
      have hnq := (Sp.poolGC HS.out (i := 2) rfl HQM.out).1
      replace hnq : nq = oq.length := hnq
      subst hnq
      obtain ⟨adq, eq_, _⟩ := Sp.poolCube HS.out (i := 2) rfl HQM.out 0 (by have := HQ2.out.1; exact this)
      subst eq_
      have x0 : (0 ≤ (k0 : Int)) = True := eq_true (by omega)
      have x1 : ((k0 : Int) < (PS.length : Int)) = True := eq_true (by have := HK0.out; omega)
      have x2 : (k0 < PS.length) = True := eq_true HK0.out
      clear hkq hqm hq_
      go_cut [10] from 91 to 109 (fun v10 w' => ∃ (gc : Nat) (x : Cb) (p s : Int), v10 = .pointer (some ⟨gc, 0, none⟩) ∧ Aside0 (SrcOk code p s) ∧ Aside0 (Sp w0 ([Res.blk gc #[.int .i64 x.f0, .int .i64 x.f1, .int .i64 x.f2] 94, srcR w0 gs code p s, Res.row kSl 35 w0.heap.size (.slice (some ad) PS.length c) (QS.map Prod.fst), Res.poolG kC 94 w0.heap.size L, Res.blk gr #[.slice none 0 0] 26] ++ rest) w'))
      case first =>
       go_wp2
       replace HS := A0_ (Sp.drew HS.out)
       refine start_ (n := 21) (S := fun w' => w'.cell? (ad.add k0) = some (.slice (some adq) oq.length cq) ∧ (∀ j, j < oq.length → w'.cell? (adq.add (j * 3)) = some (.int .i64 (cAt oq j).f0) ∧ w'.cell? ⟨(adq.add (j * 3)).block, (adq.add (j * 3)).off + 1, none⟩ = some (.int .i64 (cAt oq j).f1) ∧ w'.cell? ⟨(adq.add (j * 3)).block, (adq.add (j * 3)).off + 2, none⟩ = some (.int .i64 (cAt oq j).f2))) (ds := [20]) #[false, false, false, false, false, false, false, false, false, false, false, false, false, false, false, false, false, false, false, false, false] (by kernel_rfl) rfl rfl (⟨Sp.slCellV HS.out (i := 1) rfl k0 HK0.out HQK.out, fun j hj => poolCubes HS.out (i := 2) rfl HQM.out j hj⟩) (fun hHeld => ?_)
       refine with_tabW drwF.tab23 drwF.bits23 (fun HT_ HW_ => ?_)
       generalize w5.drew = wD23_ at HS hHeld ⊢
       refine on_ 0 (some 91) ?_
       refine on_ 1 (some 92) ?_
       refine on_ 2 (some 93) ?_
       refine tk_ 3 (some 94) ?_
       refine on_ 4 (some 95) ?_
       refine on_ 5 (some 96) ?_
       refine on_ 6 (some 97) ?_
       refine on_ 7 (some 98) ?_
       refine tk_ 8 (some 99) ?_
       refine on_ 9 (some 100) ?_
       refine on_ 14 (some 105) ?_
       refine o2_ 10 19 (some 101) (some 10) (fun K hK => ?_) (fun K hK => ?_)
       ·refine gs_ Try.func57 #[.pointer (some ⟨gs, 0, none⟩), .int .i64 (oq.length : Int)] ?_
        refine (next_nat HOK.out HSR.out (oq.length) (HQ2.out.1) (i := 0) rfl _ HS.out).mono ?_
        rintro e wA11 ⟨j1, pA11, sA11, rfl, hr_, hS1, hs_⟩
        refine ⟨_, rfl, ?_⟩
        clear HSR
        have HSR := A0_ hS1
        have HB_j1 := A0_ hr_
        replace HS := A0_ (hs_)
        clear hs_ hS1 hr_
        have y0 : (0 ≤ (j1 : Int)) = True := eq_true (by omega)
        have y1 : ((j1 : Int) < (oq.length : Int)) = True := eq_true (by have := HB_j1.out; omega)
        have y2 : (j1 < oq.length) = True := eq_true HB_j1.out
        obtain ⟨x, hx_⟩ : ∃ x, cAt oq j1 = x := ⟨_, rfl⟩
        have HX1 := A0_ hx_
        clear hx_
        refine hK.out _ _ (⟨Sp.slCellV HS.out (i := 1) rfl k0 HK0.out HQK.out, fun j hj => poolCubes HS.out (i := 2) rfl HQM.out j hj⟩) (fun hHeld => ?_)
        clear hK K
        refine nm_ (some 101) ?_
        refine on_ 11 (some 102) ?_
        refine take_ (i := 12) (N := (some 103)) (v := ?_) (a' := ?_) #[true, true, true, true, true, true, true, true, true, true, true, true, true, false, true, false, false, false, false, false, false] rfl rfl (take_ofW HT_.out HW_.out (by kernel_rfl)) (fun _ _ _ h => h) (Or.inl ⟨by rfl, ?_⟩) hHeld ?_ ?_
        rotate_left
        ·rintro w' ⟨s0, s1⟩
         obtain ⟨hx0, hx1, hx2⟩ := s1 j1 HB_j1.out
         rw [HX1.out] at hx0 hx1 hx2
         clear s1
         go_simp
         with_reducible rfl
        rotate_left
        ·simp only [Act.put, List.setIfInBounds_toArray, List.set_cons_zero, List.set_cons_succ, i64_w, i32_w]
         rfl
        refine o2_ 13 19 (some 104) (some 10) (fun K hK => ?_) (fun K hK => ?_)
        ·refine gs_ Try.func95 #[] ?_
         refine (spec_l09Steps.calls _ _ rfl).mono ?_
         rintro e wA12 ⟨vA12, rfl, ho, hb⟩
         refine ⟨_, rfl, ?_⟩
         replace HS := A0_ (Sp.made' HS.out hb ho)
         clear hb ho
         obtain ⟨AA12, cA12, e_⟩ := Sp.slice HS.out (i := 0) rfl
         subst e_
         have hsl := (Sp.reads HS.out (i := 0) rfl).1
         obtain ⟨adt, et_⟩ := Sp.some_ HS.out (i := 0) rfl (by decide)
         subst et_
         clear hsl
         refine hK.out _ _ (⟨Sp.slCellV HS.out (i := 2) rfl k0 HK0.out HQK.out, fun j hj => poolCubes HS.out (i := 3) rfl HQM.out j hj⟩) (fun hHeld => ?_)
         clear hK K
         refine nm_ (some 104) ?_
         refine o2_ 15 19 (some 106) (some 10) (fun K hK => ?_) (fun K hK => ?_)
         ·refine gs_ Try.func57 #[.pointer (some ⟨gs, 0, none⟩), .int .i64 (6 : Int)] ?_
          refine (next_nat HOK.out HSR.out (6) (by decide) (i := 1) rfl _ HS.out).mono ?_
          rintro e wA13 ⟨j2, pA13, sA13, rfl, hr_, hS1, hs_⟩
          refine ⟨_, rfl, ?_⟩
          clear HSR
          have HSR := A0_ hS1
          have HB_j2 := A0_ hr_
          replace HS := A0_ (hs_)
          clear hs_ hS1 hr_
          have z0 : (0 ≤ (j2 : Int)) = True := eq_true (by omega)
          have z1 : ((j2 : Int) < 6) = True := eq_true (by have := HB_j2.out; omega)
          have z2 : (j2 < 6) = True := eq_true HB_j2.out
          refine hK.out _ _ (⟨Sp.slCellV HS.out (i := 2) rfl k0 HK0.out HQK.out, fun j hj => poolCubes HS.out (i := 3) rfl HQM.out j hj⟩) (fun hHeld => ?_)
          clear hK K
          refine nm_ (some 106) ?_
          refine on_ 16 (some 107) ?_
          refine o2_ 17 19 (some 108) (some 10) (fun K hK => ?_) (fun K hK => ?_)
          ·obtain ⟨hx0, hx1, hx2⟩ := Sp.cubeCell HS.out (i := 0) rfl j2 HB_j2.out
           obtain ⟨y, hx⟩ : ∃ x, cAt stepsL j2 = x := ⟨_, rfl⟩
           rw [hx] at hx0 hx1 hx2
           refine event_step (v := .agg #[.int .i64 y.f0, .int .i64 y.f1, .int .i64 y.f2]) (w1 := wA13) (by rfl) (by first | (go_simp; done) | (go_simp; rfl)) ?_
           clear hx hx0 hx1 hx2
           refine hK.out _ _ (⟨Sp.slCellV HS.out (i := 2) rfl k0 HK0.out HQK.out, fun j hj => poolCubes HS.out (i := 3) rfl HQM.out j hj⟩) (fun hHeld => ?_)
           clear hK K
           refine nm_ (some 108) ?_
           refine o2_ 18 19 (some 109) (some 10) (fun K hK => ?_) (fun K hK => ?_)
           ·refine gs_ Try.func89 #[.agg #[.int .i64 x.f0, .int .i64 x.f1, .int .i64 x.f2], .agg #[.int .i64 y.f0, .int .i64 y.f1, .int .i64 y.f2]] ?_
            refine (spec_l09Add.calls x.f0 x.f1 x.f2 y.f0 y.f1 y.f2 _ _ _ _ rfl).mono ?_
            rintro e wA14 ⟨rfl, hb⟩
            refine ⟨_, rfl, ?_⟩
            replace HS := A0_ (Sp.far HS.out hb)
            clear hb
            refine hK.out _ _ (⟨Sp.slCellV HS.out (i := 2) rfl k0 HK0.out HQK.out, fun j hj => poolCubes HS.out (i := 3) rfl HQM.out j hj⟩) (fun hHeld => ?_)
            clear hK K
            refine nm_ (some 109) ?_
            refine o1_ 19 (some 10) (fun K hK => ?_)
            refine event_step (v := .pointer (some ⟨wA14.heap.size, 0, none⟩)) (w1 := wA14.alloc (.cells #[.int .i64 0, .int .i64 0, .int .i64 0] 94)) (by rfl) (by first | (go_simp; done) | (go_simp; rfl)) ?_
            obtain ⟨gc, hg_⟩ : ∃ g_, g_ = (wA14).heap.size := ⟨_, rfl⟩
            obtain ⟨wB15, hw_⟩ : ∃ w_, w_ = World.alloc wA14 (.cells #[.int .i64 0, .int .i64 0, .int .i64 0] 94) := ⟨_, rfl⟩
            rw [← hw_, ← hg_]
            have HS_ := A0_ (Sp.box HS.out #[.int .i64 0, .int .i64 0, .int .i64 0] 94)
            rw [← hw_, ← hg_] at HS_
            clear HS
            have HS := HS_
            clear HS_ hw_ hg_
            refine hK.out _ _ (⟨Sp.slCellV HS.out (i := 3) rfl k0 HK0.out HQK.out, fun j hj => poolCubes HS.out (i := 4) rfl HQM.out j hj⟩) (fun hHeld => ?_)
            clear hK K
            refine nm_ (some 10) ?_
            refine ol_ 20 none (fun K hK => ?_)
            refine skip_ (w1 := wB15.setCells gc 0 (#[.int .i64 (wrap64 (x.f0 + y.f0)), .int .i64 (wrap64 (x.f1 + y.f1)), .int .i64 (wrap64 (x.f2 + y.f2))] : Array Value).toList) (by rfl) rfl (exec_store (v := .pointer (some ⟨gc, 0, none⟩)) (u := (.agg #[.int .i64 (wrap64 (x.f0 + y.f0)), .int .i64 (wrap64 (x.f1 + y.f1)), .int .i64 (wrap64 (x.f2 + y.f2))])) rfl (by first | rfl | (go_simp; done) | (go_simp; rfl)) (by first | rfl | (go_simp; done) | (go_simp; rfl)) (Sp.blkStore HS.out (i := 0) rfl ((.agg #[.int .i64 (wrap64 (x.f0 + y.f0)), .int .i64 (wrap64 (x.f1 + y.f1)), .int .i64 (wrap64 (x.f2 + y.f2))])) (#[.int .i64 (wrap64 (x.f0 + y.f0)), .int .i64 (wrap64 (x.f1 + y.f1)), .int .i64 (wrap64 (x.f2 + y.f2))]) rfl rfl (by kernel_rfl) (by first | (simp; done) | (simp [Value.oneCell']; done) | (simp; exact ⟨rfl, rfl, rfl⟩)))) ?_
            obtain ⟨wS16, hw_⟩ : ∃ w_, w_ = wB15.setCells gc 0 (#[.int .i64 (wrap64 (x.f0 + y.f0)), .int .i64 (wrap64 (x.f1 + y.f1)), .int .i64 (wrap64 (x.f2 + y.f2))] : Array Value).toList := ⟨_, rfl⟩
            rw [← hw_]
            have HS_ := A0_ (Sp.blkAll HS.out (i := 0) rfl (#[.int .i64 (wrap64 (x.f0 + y.f0)), .int .i64 (wrap64 (x.f1 + y.f1)), .int .i64 (wrap64 (x.f2 + y.f2))]) rfl)
            rw [← hw_] at HS_
            clear HS
            have HS := HS_
            clear HS_ hw_
            refine hK.out _ _ ?_
            clear hK K
            refine dn_ ?_
            replace HS := A0_ (Sp.arr (pre := [Res.blk gc #[.int .i64 (wrap64 (x.f0 + y.f0)), .int .i64 (wrap64 (x.f1 + y.f1)), .int .i64 (wrap64 (x.f2 + y.f2))] 94, Res.row kC 94 w0.heap.size (.slice (some adt) stepsL.length cA12) stepsL, srcR w0 gs code pA13 sA13, Res.row kSl 35 w0.heap.size (.slice (some ad) PS.length c) (QS.map Prod.fst), Res.poolG kC 94 w0.heap.size L, Res.blk gr #[.slice none 0 0] 26]) (pre' := [Res.blk gc #[.int .i64 (wrap64 (x.f0 + y.f0)), .int .i64 (wrap64 (x.f1 + y.f1)), .int .i64 (wrap64 (x.f2 + y.f2))] 94, srcR w0 gs code pA13 sA13, Res.row kSl 35 w0.heap.size (.slice (some ad) PS.length c) (QS.map Prod.fst), Res.poolG kC 94 w0.heap.size L, Res.blk gr #[.slice none 0 0] 26, Res.row kC 94 w0.heap.size (.slice (some adt) stepsL.length cA12) stepsL]) (rest := rest) [0, 2, 3, 4, 5, 1] HS.out rfl rfl)
            replace HS := A0_ ((show Sp w0 ([Res.blk gc #[.int .i64 (wrap64 (x.f0 + y.f0)), .int .i64 (wrap64 (x.f1 + y.f1)), .int .i64 (wrap64 (x.f2 + y.f2))] 94, srcR w0 gs code pA13 sA13, Res.row kSl 35 w0.heap.size (.slice (some ad) PS.length c) (QS.map Prod.fst), Res.poolG kC 94 w0.heap.size L, Res.blk gr #[.slice none 0 0] 26] ++ rest) _ from Sp.out (HS.out) 5))
            go_wp2
            go_meet
            case rel => exact ⟨gc, ⟨wrap64 (x.f0 + y.f0), wrap64 (x.f1 + y.f1), wrap64 (x.f2 + y.f2)⟩, _, _, rfl, HSR, HS⟩
           ·refine event_step (v := .pointer (some ⟨wA13.heap.size, 0, none⟩)) (w1 := wA13.alloc (.cells #[.int .i64 0, .int .i64 0, .int .i64 0] 94)) (by rfl) (by first | (go_simp; done) | (go_simp; rfl)) ?_
            obtain ⟨gc, hg_⟩ : ∃ g_, g_ = (wA13).heap.size := ⟨_, rfl⟩
            obtain ⟨wB14, hw_⟩ : ∃ w_, w_ = World.alloc wA13 (.cells #[.int .i64 0, .int .i64 0, .int .i64 0] 94) := ⟨_, rfl⟩
            rw [← hw_, ← hg_]
            have HS_ := A0_ (Sp.box HS.out #[.int .i64 0, .int .i64 0, .int .i64 0] 94)
            rw [← hw_, ← hg_] at HS_
            clear HS
            have HS := HS_
            clear HS_ hw_ hg_
            refine hK.out _ _ (⟨Sp.slCellV HS.out (i := 3) rfl k0 HK0.out HQK.out, fun j hj => poolCubes HS.out (i := 4) rfl HQM.out j hj⟩) (fun hHeld => ?_)
            clear hK K
            refine nm_ (some 10) ?_
            refine o1_ 18 (some 109) (fun K hK => ?_)
            refine gs_ Try.func89 #[.agg #[.int .i64 x.f0, .int .i64 x.f1, .int .i64 x.f2], .agg #[.int .i64 y.f0, .int .i64 y.f1, .int .i64 y.f2]] ?_
            refine (spec_l09Add.calls x.f0 x.f1 x.f2 y.f0 y.f1 y.f2 _ _ _ _ rfl).mono ?_
            rintro e wA15 ⟨rfl, hb⟩
            refine ⟨_, rfl, ?_⟩
            replace HS := A0_ (Sp.far HS.out hb)
            clear hb
            refine hK.out _ _ (⟨Sp.slCellV HS.out (i := 3) rfl k0 HK0.out HQK.out, fun j hj => poolCubes HS.out (i := 4) rfl HQM.out j hj⟩) (fun hHeld => ?_)
            clear hK K
            refine nm_ (some 109) ?_
            refine ol_ 20 none (fun K hK => ?_)
            refine skip_ (w1 := wA15.setCells gc 0 (#[.int .i64 (wrap64 (x.f0 + y.f0)), .int .i64 (wrap64 (x.f1 + y.f1)), .int .i64 (wrap64 (x.f2 + y.f2))] : Array Value).toList) (by rfl) rfl (exec_store (v := .pointer (some ⟨gc, 0, none⟩)) (u := (.agg #[.int .i64 (wrap64 (x.f0 + y.f0)), .int .i64 (wrap64 (x.f1 + y.f1)), .int .i64 (wrap64 (x.f2 + y.f2))])) rfl (by first | rfl | (go_simp; done) | (go_simp; rfl)) (by first | rfl | (go_simp; done) | (go_simp; rfl)) (Sp.blkStore HS.out (i := 0) rfl ((.agg #[.int .i64 (wrap64 (x.f0 + y.f0)), .int .i64 (wrap64 (x.f1 + y.f1)), .int .i64 (wrap64 (x.f2 + y.f2))])) (#[.int .i64 (wrap64 (x.f0 + y.f0)), .int .i64 (wrap64 (x.f1 + y.f1)), .int .i64 (wrap64 (x.f2 + y.f2))]) rfl rfl (by kernel_rfl) (by first | (simp; done) | (simp [Value.oneCell']; done) | (simp; exact ⟨rfl, rfl, rfl⟩)))) ?_
            obtain ⟨wS16, hw_⟩ : ∃ w_, w_ = wA15.setCells gc 0 (#[.int .i64 (wrap64 (x.f0 + y.f0)), .int .i64 (wrap64 (x.f1 + y.f1)), .int .i64 (wrap64 (x.f2 + y.f2))] : Array Value).toList := ⟨_, rfl⟩
            rw [← hw_]
            have HS_ := A0_ (Sp.blkAll HS.out (i := 0) rfl (#[.int .i64 (wrap64 (x.f0 + y.f0)), .int .i64 (wrap64 (x.f1 + y.f1)), .int .i64 (wrap64 (x.f2 + y.f2))]) rfl)
            rw [← hw_] at HS_
            clear HS
            have HS := HS_
            clear HS_ hw_
            refine hK.out _ _ ?_
            clear hK K
            refine dn_ ?_
            replace HS := A0_ (Sp.arr (pre := [Res.blk gc #[.int .i64 (wrap64 (x.f0 + y.f0)), .int .i64 (wrap64 (x.f1 + y.f1)), .int .i64 (wrap64 (x.f2 + y.f2))] 94, Res.row kC 94 w0.heap.size (.slice (some adt) stepsL.length cA12) stepsL, srcR w0 gs code pA13 sA13, Res.row kSl 35 w0.heap.size (.slice (some ad) PS.length c) (QS.map Prod.fst), Res.poolG kC 94 w0.heap.size L, Res.blk gr #[.slice none 0 0] 26]) (pre' := [Res.blk gc #[.int .i64 (wrap64 (x.f0 + y.f0)), .int .i64 (wrap64 (x.f1 + y.f1)), .int .i64 (wrap64 (x.f2 + y.f2))] 94, srcR w0 gs code pA13 sA13, Res.row kSl 35 w0.heap.size (.slice (some ad) PS.length c) (QS.map Prod.fst), Res.poolG kC 94 w0.heap.size L, Res.blk gr #[.slice none 0 0] 26, Res.row kC 94 w0.heap.size (.slice (some adt) stepsL.length cA12) stepsL]) (rest := rest) [0, 2, 3, 4, 5, 1] HS.out rfl rfl)
            replace HS := A0_ ((show Sp w0 ([Res.blk gc #[.int .i64 (wrap64 (x.f0 + y.f0)), .int .i64 (wrap64 (x.f1 + y.f1)), .int .i64 (wrap64 (x.f2 + y.f2))] 94, srcR w0 gs code pA13 sA13, Res.row kSl 35 w0.heap.size (.slice (some ad) PS.length c) (QS.map Prod.fst), Res.poolG kC 94 w0.heap.size L, Res.blk gr #[.slice none 0 0] 26] ++ rest) _ from Sp.out (HS.out) 5))
            go_wp2
            go_meet
            case rel => exact ⟨gc, ⟨wrap64 (x.f0 + y.f0), wrap64 (x.f1 + y.f1), wrap64 (x.f2 + y.f2)⟩, _, _, rfl, HSR, HS⟩
          ·refine event_step (v := .pointer (some ⟨wA13.heap.size, 0, none⟩)) (w1 := wA13.alloc (.cells #[.int .i64 0, .int .i64 0, .int .i64 0] 94)) (by rfl) (by first | (go_simp; done) | (go_simp; rfl)) ?_
           obtain ⟨gc, hg_⟩ : ∃ g_, g_ = (wA13).heap.size := ⟨_, rfl⟩
           obtain ⟨wB14, hw_⟩ : ∃ w_, w_ = World.alloc wA13 (.cells #[.int .i64 0, .int .i64 0, .int .i64 0] 94) := ⟨_, rfl⟩
           rw [← hw_, ← hg_]
           have HS_ := A0_ (Sp.box HS.out #[.int .i64 0, .int .i64 0, .int .i64 0] 94)
           rw [← hw_, ← hg_] at HS_
           clear HS
           have HS := HS_
           clear HS_ hw_ hg_
           refine hK.out _ _ (⟨Sp.slCellV HS.out (i := 3) rfl k0 HK0.out HQK.out, fun j hj => poolCubes HS.out (i := 4) rfl HQM.out j hj⟩) (fun hHeld => ?_)
           clear hK K
           refine nm_ (some 10) ?_
           refine o1_ 17 (some 108) (fun K hK => ?_)
           obtain ⟨hx0, hx1, hx2⟩ := Sp.cubeCell HS.out (i := 1) rfl j2 HB_j2.out
           obtain ⟨y, hx⟩ : ∃ x, cAt stepsL j2 = x := ⟨_, rfl⟩
           rw [hx] at hx0 hx1 hx2
           refine event_step (v := .agg #[.int .i64 y.f0, .int .i64 y.f1, .int .i64 y.f2]) (w1 := wB14) (by rfl) (by first | (go_simp; done) | (go_simp; rfl)) ?_
           clear hx hx0 hx1 hx2
           refine hK.out _ _ (⟨Sp.slCellV HS.out (i := 3) rfl k0 HK0.out HQK.out, fun j hj => poolCubes HS.out (i := 4) rfl HQM.out j hj⟩) (fun hHeld => ?_)
           clear hK K
           refine nm_ (some 108) ?_
           refine o1_ 18 (some 109) (fun K hK => ?_)
           refine gs_ Try.func89 #[.agg #[.int .i64 x.f0, .int .i64 x.f1, .int .i64 x.f2], .agg #[.int .i64 y.f0, .int .i64 y.f1, .int .i64 y.f2]] ?_
           refine (spec_l09Add.calls x.f0 x.f1 x.f2 y.f0 y.f1 y.f2 _ _ _ _ rfl).mono ?_
           rintro e wA15 ⟨rfl, hb⟩
           refine ⟨_, rfl, ?_⟩
           replace HS := A0_ (Sp.far HS.out hb)
           clear hb
           refine hK.out _ _ (⟨Sp.slCellV HS.out (i := 3) rfl k0 HK0.out HQK.out, fun j hj => poolCubes HS.out (i := 4) rfl HQM.out j hj⟩) (fun hHeld => ?_)
           clear hK K
           refine nm_ (some 109) ?_
           refine ol_ 20 none (fun K hK => ?_)
           refine skip_ (w1 := wA15.setCells gc 0 (#[.int .i64 (wrap64 (x.f0 + y.f0)), .int .i64 (wrap64 (x.f1 + y.f1)), .int .i64 (wrap64 (x.f2 + y.f2))] : Array Value).toList) (by rfl) rfl (exec_store (v := .pointer (some ⟨gc, 0, none⟩)) (u := (.agg #[.int .i64 (wrap64 (x.f0 + y.f0)), .int .i64 (wrap64 (x.f1 + y.f1)), .int .i64 (wrap64 (x.f2 + y.f2))])) rfl (by first | rfl | (go_simp; done) | (go_simp; rfl)) (by first | rfl | (go_simp; done) | (go_simp; rfl)) (Sp.blkStore HS.out (i := 0) rfl ((.agg #[.int .i64 (wrap64 (x.f0 + y.f0)), .int .i64 (wrap64 (x.f1 + y.f1)), .int .i64 (wrap64 (x.f2 + y.f2))])) (#[.int .i64 (wrap64 (x.f0 + y.f0)), .int .i64 (wrap64 (x.f1 + y.f1)), .int .i64 (wrap64 (x.f2 + y.f2))]) rfl rfl (by kernel_rfl) (by first | (simp; done) | (simp [Value.oneCell']; done) | (simp; exact ⟨rfl, rfl, rfl⟩)))) ?_
           obtain ⟨wS16, hw_⟩ : ∃ w_, w_ = wA15.setCells gc 0 (#[.int .i64 (wrap64 (x.f0 + y.f0)), .int .i64 (wrap64 (x.f1 + y.f1)), .int .i64 (wrap64 (x.f2 + y.f2))] : Array Value).toList := ⟨_, rfl⟩
           rw [← hw_]
           have HS_ := A0_ (Sp.blkAll HS.out (i := 0) rfl (#[.int .i64 (wrap64 (x.f0 + y.f0)), .int .i64 (wrap64 (x.f1 + y.f1)), .int .i64 (wrap64 (x.f2 + y.f2))]) rfl)
           rw [← hw_] at HS_
           clear HS
           have HS := HS_
           clear HS_ hw_
           refine hK.out _ _ ?_
           clear hK K
           refine dn_ ?_
           replace HS := A0_ (Sp.arr (pre := [Res.blk gc #[.int .i64 (wrap64 (x.f0 + y.f0)), .int .i64 (wrap64 (x.f1 + y.f1)), .int .i64 (wrap64 (x.f2 + y.f2))] 94, Res.row kC 94 w0.heap.size (.slice (some adt) stepsL.length cA12) stepsL, srcR w0 gs code pA13 sA13, Res.row kSl 35 w0.heap.size (.slice (some ad) PS.length c) (QS.map Prod.fst), Res.poolG kC 94 w0.heap.size L, Res.blk gr #[.slice none 0 0] 26]) (pre' := [Res.blk gc #[.int .i64 (wrap64 (x.f0 + y.f0)), .int .i64 (wrap64 (x.f1 + y.f1)), .int .i64 (wrap64 (x.f2 + y.f2))] 94, srcR w0 gs code pA13 sA13, Res.row kSl 35 w0.heap.size (.slice (some ad) PS.length c) (QS.map Prod.fst), Res.poolG kC 94 w0.heap.size L, Res.blk gr #[.slice none 0 0] 26, Res.row kC 94 w0.heap.size (.slice (some adt) stepsL.length cA12) stepsL]) (rest := rest) [0, 2, 3, 4, 5, 1] HS.out rfl rfl)
           replace HS := A0_ ((show Sp w0 ([Res.blk gc #[.int .i64 (wrap64 (x.f0 + y.f0)), .int .i64 (wrap64 (x.f1 + y.f1)), .int .i64 (wrap64 (x.f2 + y.f2))] 94, srcR w0 gs code pA13 sA13, Res.row kSl 35 w0.heap.size (.slice (some ad) PS.length c) (QS.map Prod.fst), Res.poolG kC 94 w0.heap.size L, Res.blk gr #[.slice none 0 0] 26] ++ rest) _ from Sp.out (HS.out) 5))
           go_wp2
           go_meet
           case rel => exact ⟨gc, ⟨wrap64 (x.f0 + y.f0), wrap64 (x.f1 + y.f1), wrap64 (x.f2 + y.f2)⟩, _, _, rfl, HSR, HS⟩
         ·refine event_step (v := .pointer (some ⟨wA12.heap.size, 0, none⟩)) (w1 := wA12.alloc (.cells #[.int .i64 0, .int .i64 0, .int .i64 0] 94)) (by rfl) (by first | (go_simp; done) | (go_simp; rfl)) ?_
          obtain ⟨gc, hg_⟩ : ∃ g_, g_ = (wA12).heap.size := ⟨_, rfl⟩
          obtain ⟨wB13, hw_⟩ : ∃ w_, w_ = World.alloc wA12 (.cells #[.int .i64 0, .int .i64 0, .int .i64 0] 94) := ⟨_, rfl⟩
          rw [← hw_, ← hg_]
          have HS_ := A0_ (Sp.box HS.out #[.int .i64 0, .int .i64 0, .int .i64 0] 94)
          rw [← hw_, ← hg_] at HS_
          clear HS
          have HS := HS_
          clear HS_ hw_ hg_
          refine hK.out _ _ (⟨Sp.slCellV HS.out (i := 3) rfl k0 HK0.out HQK.out, fun j hj => poolCubes HS.out (i := 4) rfl HQM.out j hj⟩) (fun hHeld => ?_)
          clear hK K
          refine nm_ (some 10) ?_
          refine o1_ 15 (some 106) (fun K hK => ?_)
          refine gs_ Try.func57 #[.pointer (some ⟨gs, 0, none⟩), .int .i64 (6 : Int)] ?_
          refine (next_nat HOK.out HSR.out (6) (by decide) (i := 2) rfl _ HS.out).mono ?_
          rintro e wA14 ⟨j2, pA14, sA14, rfl, hr_, hS1, hs_⟩
          refine ⟨_, rfl, ?_⟩
          clear HSR
          have HSR := A0_ hS1
          have HB_j2 := A0_ hr_
          replace HS := A0_ (hs_)
          clear hs_ hS1 hr_
          have z0 : (0 ≤ (j2 : Int)) = True := eq_true (by omega)
          have z1 : ((j2 : Int) < 6) = True := eq_true (by have := HB_j2.out; omega)
          have z2 : (j2 < 6) = True := eq_true HB_j2.out
          refine hK.out _ _ (⟨Sp.slCellV HS.out (i := 3) rfl k0 HK0.out HQK.out, fun j hj => poolCubes HS.out (i := 4) rfl HQM.out j hj⟩) (fun hHeld => ?_)
          clear hK K
          refine nm_ (some 106) ?_
          refine on_ 16 (some 107) ?_
          refine o1_ 17 (some 108) (fun K hK => ?_)
          obtain ⟨hx0, hx1, hx2⟩ := Sp.cubeCell HS.out (i := 1) rfl j2 HB_j2.out
          obtain ⟨y, hx⟩ : ∃ x, cAt stepsL j2 = x := ⟨_, rfl⟩
          rw [hx] at hx0 hx1 hx2
          refine event_step (v := .agg #[.int .i64 y.f0, .int .i64 y.f1, .int .i64 y.f2]) (w1 := wA14) (by rfl) (by first | (go_simp; done) | (go_simp; rfl)) ?_
          clear hx hx0 hx1 hx2
          refine hK.out _ _ (⟨Sp.slCellV HS.out (i := 3) rfl k0 HK0.out HQK.out, fun j hj => poolCubes HS.out (i := 4) rfl HQM.out j hj⟩) (fun hHeld => ?_)
          clear hK K
          refine nm_ (some 108) ?_
          refine o1_ 18 (some 109) (fun K hK => ?_)
          refine gs_ Try.func89 #[.agg #[.int .i64 x.f0, .int .i64 x.f1, .int .i64 x.f2], .agg #[.int .i64 y.f0, .int .i64 y.f1, .int .i64 y.f2]] ?_
          refine (spec_l09Add.calls x.f0 x.f1 x.f2 y.f0 y.f1 y.f2 _ _ _ _ rfl).mono ?_
          rintro e wA15 ⟨rfl, hb⟩
          refine ⟨_, rfl, ?_⟩
          replace HS := A0_ (Sp.far HS.out hb)
          clear hb
          refine hK.out _ _ (⟨Sp.slCellV HS.out (i := 3) rfl k0 HK0.out HQK.out, fun j hj => poolCubes HS.out (i := 4) rfl HQM.out j hj⟩) (fun hHeld => ?_)
          clear hK K
          refine nm_ (some 109) ?_
          refine ol_ 20 none (fun K hK => ?_)
          refine skip_ (w1 := wA15.setCells gc 0 (#[.int .i64 (wrap64 (x.f0 + y.f0)), .int .i64 (wrap64 (x.f1 + y.f1)), .int .i64 (wrap64 (x.f2 + y.f2))] : Array Value).toList) (by rfl) rfl (exec_store (v := .pointer (some ⟨gc, 0, none⟩)) (u := (.agg #[.int .i64 (wrap64 (x.f0 + y.f0)), .int .i64 (wrap64 (x.f1 + y.f1)), .int .i64 (wrap64 (x.f2 + y.f2))])) rfl (by first | rfl | (go_simp; done) | (go_simp; rfl)) (by first | rfl | (go_simp; done) | (go_simp; rfl)) (Sp.blkStore HS.out (i := 0) rfl ((.agg #[.int .i64 (wrap64 (x.f0 + y.f0)), .int .i64 (wrap64 (x.f1 + y.f1)), .int .i64 (wrap64 (x.f2 + y.f2))])) (#[.int .i64 (wrap64 (x.f0 + y.f0)), .int .i64 (wrap64 (x.f1 + y.f1)), .int .i64 (wrap64 (x.f2 + y.f2))]) rfl rfl (by kernel_rfl) (by first | (simp; done) | (simp [Value.oneCell']; done) | (simp; exact ⟨rfl, rfl, rfl⟩)))) ?_
          obtain ⟨wS16, hw_⟩ : ∃ w_, w_ = wA15.setCells gc 0 (#[.int .i64 (wrap64 (x.f0 + y.f0)), .int .i64 (wrap64 (x.f1 + y.f1)), .int .i64 (wrap64 (x.f2 + y.f2))] : Array Value).toList := ⟨_, rfl⟩
          rw [← hw_]
          have HS_ := A0_ (Sp.blkAll HS.out (i := 0) rfl (#[.int .i64 (wrap64 (x.f0 + y.f0)), .int .i64 (wrap64 (x.f1 + y.f1)), .int .i64 (wrap64 (x.f2 + y.f2))]) rfl)
          rw [← hw_] at HS_
          clear HS
          have HS := HS_
          clear HS_ hw_
          refine hK.out _ _ ?_
          clear hK K
          refine dn_ ?_
          replace HS := A0_ (Sp.arr (pre := [Res.blk gc #[.int .i64 (wrap64 (x.f0 + y.f0)), .int .i64 (wrap64 (x.f1 + y.f1)), .int .i64 (wrap64 (x.f2 + y.f2))] 94, Res.row kC 94 w0.heap.size (.slice (some adt) stepsL.length cA12) stepsL, srcR w0 gs code pA14 sA14, Res.row kSl 35 w0.heap.size (.slice (some ad) PS.length c) (QS.map Prod.fst), Res.poolG kC 94 w0.heap.size L, Res.blk gr #[.slice none 0 0] 26]) (pre' := [Res.blk gc #[.int .i64 (wrap64 (x.f0 + y.f0)), .int .i64 (wrap64 (x.f1 + y.f1)), .int .i64 (wrap64 (x.f2 + y.f2))] 94, srcR w0 gs code pA14 sA14, Res.row kSl 35 w0.heap.size (.slice (some ad) PS.length c) (QS.map Prod.fst), Res.poolG kC 94 w0.heap.size L, Res.blk gr #[.slice none 0 0] 26, Res.row kC 94 w0.heap.size (.slice (some adt) stepsL.length cA12) stepsL]) (rest := rest) [0, 2, 3, 4, 5, 1] HS.out rfl rfl)
          replace HS := A0_ ((show Sp w0 ([Res.blk gc #[.int .i64 (wrap64 (x.f0 + y.f0)), .int .i64 (wrap64 (x.f1 + y.f1)), .int .i64 (wrap64 (x.f2 + y.f2))] 94, srcR w0 gs code pA14 sA14, Res.row kSl 35 w0.heap.size (.slice (some ad) PS.length c) (QS.map Prod.fst), Res.poolG kC 94 w0.heap.size L, Res.blk gr #[.slice none 0 0] 26] ++ rest) _ from Sp.out (HS.out) 5))
          go_wp2
          go_meet
          case rel => exact ⟨gc, ⟨wrap64 (x.f0 + y.f0), wrap64 (x.f1 + y.f1), wrap64 (x.f2 + y.f2)⟩, _, _, rfl, HSR, HS⟩
        ·refine event_step (v := .pointer (some ⟨wA11.heap.size, 0, none⟩)) (w1 := wA11.alloc (.cells #[.int .i64 0, .int .i64 0, .int .i64 0] 94)) (by rfl) (by first | (go_simp; done) | (go_simp; rfl)) ?_
         obtain ⟨gc, hg_⟩ : ∃ g_, g_ = (wA11).heap.size := ⟨_, rfl⟩
         obtain ⟨wB12, hw_⟩ : ∃ w_, w_ = World.alloc wA11 (.cells #[.int .i64 0, .int .i64 0, .int .i64 0] 94) := ⟨_, rfl⟩
         rw [← hw_, ← hg_]
         have HS_ := A0_ (Sp.box HS.out #[.int .i64 0, .int .i64 0, .int .i64 0] 94)
         rw [← hw_, ← hg_] at HS_
         clear HS
         have HS := HS_
         clear HS_ hw_ hg_
         refine hK.out _ _ (⟨Sp.slCellV HS.out (i := 2) rfl k0 HK0.out HQK.out, fun j hj => poolCubes HS.out (i := 3) rfl HQM.out j hj⟩) (fun hHeld => ?_)
         clear hK K
         refine nm_ (some 10) ?_
         refine o1_ 13 (some 104) (fun K hK => ?_)
         refine gs_ Try.func95 #[] ?_
         refine (spec_l09Steps.calls _ _ rfl).mono ?_
         rintro e wA13 ⟨vA13, rfl, ho, hb⟩
         refine ⟨_, rfl, ?_⟩
         replace HS := A0_ (Sp.made' HS.out hb ho)
         clear hb ho
         obtain ⟨AA13, cA13, e_⟩ := Sp.slice HS.out (i := 0) rfl
         subst e_
         have hsl := (Sp.reads HS.out (i := 0) rfl).1
         obtain ⟨adt, et_⟩ := Sp.some_ HS.out (i := 0) rfl (by decide)
         subst et_
         clear hsl
         refine hK.out _ _ (⟨Sp.slCellV HS.out (i := 3) rfl k0 HK0.out HQK.out, fun j hj => poolCubes HS.out (i := 4) rfl HQM.out j hj⟩) (fun hHeld => ?_)
         clear hK K
         refine nm_ (some 104) ?_
         refine o1_ 15 (some 106) (fun K hK => ?_)
         refine gs_ Try.func57 #[.pointer (some ⟨gs, 0, none⟩), .int .i64 (6 : Int)] ?_
         refine (next_nat HOK.out HSR.out (6) (by decide) (i := 2) rfl _ HS.out).mono ?_
         rintro e wA14 ⟨j2, pA14, sA14, rfl, hr_, hS1, hs_⟩
         refine ⟨_, rfl, ?_⟩
         clear HSR
         have HSR := A0_ hS1
         have HB_j2 := A0_ hr_
         replace HS := A0_ (hs_)
         clear hs_ hS1 hr_
         have z0 : (0 ≤ (j2 : Int)) = True := eq_true (by omega)
         have z1 : ((j2 : Int) < 6) = True := eq_true (by have := HB_j2.out; omega)
         have z2 : (j2 < 6) = True := eq_true HB_j2.out
         refine hK.out _ _ (⟨Sp.slCellV HS.out (i := 3) rfl k0 HK0.out HQK.out, fun j hj => poolCubes HS.out (i := 4) rfl HQM.out j hj⟩) (fun hHeld => ?_)
         clear hK K
         refine nm_ (some 106) ?_
         refine on_ 16 (some 107) ?_
         refine o1_ 17 (some 108) (fun K hK => ?_)
         obtain ⟨hx0, hx1, hx2⟩ := Sp.cubeCell HS.out (i := 0) rfl j2 HB_j2.out
         obtain ⟨y, hx⟩ : ∃ x, cAt stepsL j2 = x := ⟨_, rfl⟩
         rw [hx] at hx0 hx1 hx2
         refine event_step (v := .agg #[.int .i64 y.f0, .int .i64 y.f1, .int .i64 y.f2]) (w1 := wA14) (by rfl) (by first | (go_simp; done) | (go_simp; rfl)) ?_
         clear hx hx0 hx1 hx2
         refine hK.out _ _ (⟨Sp.slCellV HS.out (i := 3) rfl k0 HK0.out HQK.out, fun j hj => poolCubes HS.out (i := 4) rfl HQM.out j hj⟩) (fun hHeld => ?_)
         clear hK K
         refine nm_ (some 108) ?_
         refine o1_ 18 (some 109) (fun K hK => ?_)
         refine gs_ Try.func89 #[.agg #[.int .i64 x.f0, .int .i64 x.f1, .int .i64 x.f2], .agg #[.int .i64 y.f0, .int .i64 y.f1, .int .i64 y.f2]] ?_
         refine (spec_l09Add.calls x.f0 x.f1 x.f2 y.f0 y.f1 y.f2 _ _ _ _ rfl).mono ?_
         rintro e wA15 ⟨rfl, hb⟩
         refine ⟨_, rfl, ?_⟩
         replace HS := A0_ (Sp.far HS.out hb)
         clear hb
         refine hK.out _ _ (⟨Sp.slCellV HS.out (i := 3) rfl k0 HK0.out HQK.out, fun j hj => poolCubes HS.out (i := 4) rfl HQM.out j hj⟩) (fun hHeld => ?_)
         clear hK K
         refine nm_ (some 109) ?_
         refine ol_ 20 none (fun K hK => ?_)
         refine skip_ (w1 := wA15.setCells gc 0 (#[.int .i64 (wrap64 (x.f0 + y.f0)), .int .i64 (wrap64 (x.f1 + y.f1)), .int .i64 (wrap64 (x.f2 + y.f2))] : Array Value).toList) (by rfl) rfl (exec_store (v := .pointer (some ⟨gc, 0, none⟩)) (u := (.agg #[.int .i64 (wrap64 (x.f0 + y.f0)), .int .i64 (wrap64 (x.f1 + y.f1)), .int .i64 (wrap64 (x.f2 + y.f2))])) rfl (by first | rfl | (go_simp; done) | (go_simp; rfl)) (by first | rfl | (go_simp; done) | (go_simp; rfl)) (Sp.blkStore HS.out (i := 1) rfl ((.agg #[.int .i64 (wrap64 (x.f0 + y.f0)), .int .i64 (wrap64 (x.f1 + y.f1)), .int .i64 (wrap64 (x.f2 + y.f2))])) (#[.int .i64 (wrap64 (x.f0 + y.f0)), .int .i64 (wrap64 (x.f1 + y.f1)), .int .i64 (wrap64 (x.f2 + y.f2))]) rfl rfl (by kernel_rfl) (by first | (simp; done) | (simp [Value.oneCell']; done) | (simp; exact ⟨rfl, rfl, rfl⟩)))) ?_
         obtain ⟨wS16, hw_⟩ : ∃ w_, w_ = wA15.setCells gc 0 (#[.int .i64 (wrap64 (x.f0 + y.f0)), .int .i64 (wrap64 (x.f1 + y.f1)), .int .i64 (wrap64 (x.f2 + y.f2))] : Array Value).toList := ⟨_, rfl⟩
         rw [← hw_]
         have HS_ := A0_ (Sp.blkAll HS.out (i := 1) rfl (#[.int .i64 (wrap64 (x.f0 + y.f0)), .int .i64 (wrap64 (x.f1 + y.f1)), .int .i64 (wrap64 (x.f2 + y.f2))]) rfl)
         rw [← hw_] at HS_
         clear HS
         have HS := HS_
         clear HS_ hw_
         refine hK.out _ _ ?_
         clear hK K
         refine dn_ ?_
         replace HS := A0_ (Sp.arr (pre := [Res.row kC 94 w0.heap.size (.slice (some adt) stepsL.length cA13) stepsL, Res.blk gc #[.int .i64 (wrap64 (x.f0 + y.f0)), .int .i64 (wrap64 (x.f1 + y.f1)), .int .i64 (wrap64 (x.f2 + y.f2))] 94, srcR w0 gs code pA14 sA14, Res.row kSl 35 w0.heap.size (.slice (some ad) PS.length c) (QS.map Prod.fst), Res.poolG kC 94 w0.heap.size L, Res.blk gr #[.slice none 0 0] 26]) (pre' := [Res.blk gc #[.int .i64 (wrap64 (x.f0 + y.f0)), .int .i64 (wrap64 (x.f1 + y.f1)), .int .i64 (wrap64 (x.f2 + y.f2))] 94, srcR w0 gs code pA14 sA14, Res.row kSl 35 w0.heap.size (.slice (some ad) PS.length c) (QS.map Prod.fst), Res.poolG kC 94 w0.heap.size L, Res.blk gr #[.slice none 0 0] 26, Res.row kC 94 w0.heap.size (.slice (some adt) stepsL.length cA13) stepsL]) (rest := rest) [1, 2, 3, 4, 5, 0] HS.out rfl rfl)
         replace HS := A0_ ((show Sp w0 ([Res.blk gc #[.int .i64 (wrap64 (x.f0 + y.f0)), .int .i64 (wrap64 (x.f1 + y.f1)), .int .i64 (wrap64 (x.f2 + y.f2))] 94, srcR w0 gs code pA14 sA14, Res.row kSl 35 w0.heap.size (.slice (some ad) PS.length c) (QS.map Prod.fst), Res.poolG kC 94 w0.heap.size L, Res.blk gr #[.slice none 0 0] 26] ++ rest) _ from Sp.out (HS.out) 5))
         go_wp2
         go_meet
         case rel => exact ⟨gc, ⟨wrap64 (x.f0 + y.f0), wrap64 (x.f1 + y.f1), wrap64 (x.f2 + y.f2)⟩, _, _, rfl, HSR, HS⟩
       ·refine event_step (v := .pointer (some ⟨wD23_.heap.size, 0, none⟩)) (w1 := wD23_.alloc (.cells #[.int .i64 0, .int .i64 0, .int .i64 0] 94)) (by rfl) (by first | (go_simp; done) | (go_simp; rfl)) ?_
        obtain ⟨gc, hg_⟩ : ∃ g_, g_ = (wD23_).heap.size := ⟨_, rfl⟩
        obtain ⟨wB11, hw_⟩ : ∃ w_, w_ = World.alloc wD23_ (.cells #[.int .i64 0, .int .i64 0, .int .i64 0] 94) := ⟨_, rfl⟩
        rw [← hw_, ← hg_]
        have HS_ := A0_ (Sp.box HS.out #[.int .i64 0, .int .i64 0, .int .i64 0] 94)
        rw [← hw_, ← hg_] at HS_
        clear HS
        have HS := HS_
        clear HS_ hw_ hg_
        refine hK.out _ _ (⟨Sp.slCellV HS.out (i := 2) rfl k0 HK0.out HQK.out, fun j hj => poolCubes HS.out (i := 3) rfl HQM.out j hj⟩) (fun hHeld => ?_)
        clear hK K
        refine nm_ (some 10) ?_
        refine o1_ 10 (some 101) (fun K hK => ?_)
        refine gs_ Try.func57 #[.pointer (some ⟨gs, 0, none⟩), .int .i64 (oq.length : Int)] ?_
        refine (next_nat HOK.out HSR.out (oq.length) (HQ2.out.1) (i := 1) rfl _ HS.out).mono ?_
        rintro e wA12 ⟨j1, pA12, sA12, rfl, hr_, hS1, hs_⟩
        refine ⟨_, rfl, ?_⟩
        clear HSR
        have HSR := A0_ hS1
        have HB_j1 := A0_ hr_
        replace HS := A0_ (hs_)
        clear hs_ hS1 hr_
        have y0 : (0 ≤ (j1 : Int)) = True := eq_true (by omega)
        have y1 : ((j1 : Int) < (oq.length : Int)) = True := eq_true (by have := HB_j1.out; omega)
        have y2 : (j1 < oq.length) = True := eq_true HB_j1.out
        obtain ⟨x, hx_⟩ : ∃ x, cAt oq j1 = x := ⟨_, rfl⟩
        have HX1 := A0_ hx_
        clear hx_
        refine hK.out _ _ (⟨Sp.slCellV HS.out (i := 2) rfl k0 HK0.out HQK.out, fun j hj => poolCubes HS.out (i := 3) rfl HQM.out j hj⟩) (fun hHeld => ?_)
        clear hK K
        refine nm_ (some 101) ?_
        refine on_ 11 (some 102) ?_
        refine take_ (i := 12) (N := (some 103)) (v := ?_) (a' := ?_) #[true, true, true, true, true, true, true, true, true, true, true, true, true, false, true, false, false, false, false, true, false] rfl rfl (take_ofW HT_.out HW_.out (by kernel_rfl)) (fun _ _ _ h => h) (Or.inl ⟨by rfl, ?_⟩) hHeld ?_ ?_
        rotate_left
        ·rintro w' ⟨s0, s1⟩
         obtain ⟨hx0, hx1, hx2⟩ := s1 j1 HB_j1.out
         rw [HX1.out] at hx0 hx1 hx2
         clear s1
         go_simp
         with_reducible rfl
        rotate_left
        ·simp only [Act.put, List.setIfInBounds_toArray, List.set_cons_zero, List.set_cons_succ, i64_w, i32_w]
         rfl
        refine o1_ 13 (some 104) (fun K hK => ?_)
        refine gs_ Try.func95 #[] ?_
        refine (spec_l09Steps.calls _ _ rfl).mono ?_
        rintro e wA13 ⟨vA13, rfl, ho, hb⟩
        refine ⟨_, rfl, ?_⟩
        replace HS := A0_ (Sp.made' HS.out hb ho)
        clear hb ho
        obtain ⟨AA13, cA13, e_⟩ := Sp.slice HS.out (i := 0) rfl
        subst e_
        have hsl := (Sp.reads HS.out (i := 0) rfl).1
        obtain ⟨adt, et_⟩ := Sp.some_ HS.out (i := 0) rfl (by decide)
        subst et_
        clear hsl
        refine hK.out _ _ (⟨Sp.slCellV HS.out (i := 3) rfl k0 HK0.out HQK.out, fun j hj => poolCubes HS.out (i := 4) rfl HQM.out j hj⟩) (fun hHeld => ?_)
        clear hK K
        refine nm_ (some 104) ?_
        refine o1_ 15 (some 106) (fun K hK => ?_)
        refine gs_ Try.func57 #[.pointer (some ⟨gs, 0, none⟩), .int .i64 (6 : Int)] ?_
        refine (next_nat HOK.out HSR.out (6) (by decide) (i := 2) rfl _ HS.out).mono ?_
        rintro e wA14 ⟨j2, pA14, sA14, rfl, hr_, hS1, hs_⟩
        refine ⟨_, rfl, ?_⟩
        clear HSR
        have HSR := A0_ hS1
        have HB_j2 := A0_ hr_
        replace HS := A0_ (hs_)
        clear hs_ hS1 hr_
        have z0 : (0 ≤ (j2 : Int)) = True := eq_true (by omega)
        have z1 : ((j2 : Int) < 6) = True := eq_true (by have := HB_j2.out; omega)
        have z2 : (j2 < 6) = True := eq_true HB_j2.out
        refine hK.out _ _ (⟨Sp.slCellV HS.out (i := 3) rfl k0 HK0.out HQK.out, fun j hj => poolCubes HS.out (i := 4) rfl HQM.out j hj⟩) (fun hHeld => ?_)
        clear hK K
        refine nm_ (some 106) ?_
        refine on_ 16 (some 107) ?_
        refine o1_ 17 (some 108) (fun K hK => ?_)
        obtain ⟨hx0, hx1, hx2⟩ := Sp.cubeCell HS.out (i := 0) rfl j2 HB_j2.out
        obtain ⟨y, hx⟩ : ∃ x, cAt stepsL j2 = x := ⟨_, rfl⟩
        rw [hx] at hx0 hx1 hx2
        refine event_step (v := .agg #[.int .i64 y.f0, .int .i64 y.f1, .int .i64 y.f2]) (w1 := wA14) (by rfl) (by first | (go_simp; done) | (go_simp; rfl)) ?_
        clear hx hx0 hx1 hx2
        refine hK.out _ _ (⟨Sp.slCellV HS.out (i := 3) rfl k0 HK0.out HQK.out, fun j hj => poolCubes HS.out (i := 4) rfl HQM.out j hj⟩) (fun hHeld => ?_)
        clear hK K
        refine nm_ (some 108) ?_
        refine o1_ 18 (some 109) (fun K hK => ?_)
        refine gs_ Try.func89 #[.agg #[.int .i64 x.f0, .int .i64 x.f1, .int .i64 x.f2], .agg #[.int .i64 y.f0, .int .i64 y.f1, .int .i64 y.f2]] ?_
        refine (spec_l09Add.calls x.f0 x.f1 x.f2 y.f0 y.f1 y.f2 _ _ _ _ rfl).mono ?_
        rintro e wA15 ⟨rfl, hb⟩
        refine ⟨_, rfl, ?_⟩
        replace HS := A0_ (Sp.far HS.out hb)
        clear hb
        refine hK.out _ _ (⟨Sp.slCellV HS.out (i := 3) rfl k0 HK0.out HQK.out, fun j hj => poolCubes HS.out (i := 4) rfl HQM.out j hj⟩) (fun hHeld => ?_)
        clear hK K
        refine nm_ (some 109) ?_
        refine ol_ 20 none (fun K hK => ?_)
        refine skip_ (w1 := wA15.setCells gc 0 (#[.int .i64 (wrap64 (x.f0 + y.f0)), .int .i64 (wrap64 (x.f1 + y.f1)), .int .i64 (wrap64 (x.f2 + y.f2))] : Array Value).toList) (by rfl) rfl (exec_store (v := .pointer (some ⟨gc, 0, none⟩)) (u := (.agg #[.int .i64 (wrap64 (x.f0 + y.f0)), .int .i64 (wrap64 (x.f1 + y.f1)), .int .i64 (wrap64 (x.f2 + y.f2))])) rfl (by first | rfl | (go_simp; done) | (go_simp; rfl)) (by first | rfl | (go_simp; done) | (go_simp; rfl)) (Sp.blkStore HS.out (i := 1) rfl ((.agg #[.int .i64 (wrap64 (x.f0 + y.f0)), .int .i64 (wrap64 (x.f1 + y.f1)), .int .i64 (wrap64 (x.f2 + y.f2))])) (#[.int .i64 (wrap64 (x.f0 + y.f0)), .int .i64 (wrap64 (x.f1 + y.f1)), .int .i64 (wrap64 (x.f2 + y.f2))]) rfl rfl (by kernel_rfl) (by first | (simp; done) | (simp [Value.oneCell']; done) | (simp; exact ⟨rfl, rfl, rfl⟩)))) ?_
        obtain ⟨wS16, hw_⟩ : ∃ w_, w_ = wA15.setCells gc 0 (#[.int .i64 (wrap64 (x.f0 + y.f0)), .int .i64 (wrap64 (x.f1 + y.f1)), .int .i64 (wrap64 (x.f2 + y.f2))] : Array Value).toList := ⟨_, rfl⟩
        rw [← hw_]
        have HS_ := A0_ (Sp.blkAll HS.out (i := 1) rfl (#[.int .i64 (wrap64 (x.f0 + y.f0)), .int .i64 (wrap64 (x.f1 + y.f1)), .int .i64 (wrap64 (x.f2 + y.f2))]) rfl)
        rw [← hw_] at HS_
        clear HS
        have HS := HS_
        clear HS_ hw_
        refine hK.out _ _ ?_
        clear hK K
        refine dn_ ?_
        replace HS := A0_ (Sp.arr (pre := [Res.row kC 94 w0.heap.size (.slice (some adt) stepsL.length cA13) stepsL, Res.blk gc #[.int .i64 (wrap64 (x.f0 + y.f0)), .int .i64 (wrap64 (x.f1 + y.f1)), .int .i64 (wrap64 (x.f2 + y.f2))] 94, srcR w0 gs code pA14 sA14, Res.row kSl 35 w0.heap.size (.slice (some ad) PS.length c) (QS.map Prod.fst), Res.poolG kC 94 w0.heap.size L, Res.blk gr #[.slice none 0 0] 26]) (pre' := [Res.blk gc #[.int .i64 (wrap64 (x.f0 + y.f0)), .int .i64 (wrap64 (x.f1 + y.f1)), .int .i64 (wrap64 (x.f2 + y.f2))] 94, srcR w0 gs code pA14 sA14, Res.row kSl 35 w0.heap.size (.slice (some ad) PS.length c) (QS.map Prod.fst), Res.poolG kC 94 w0.heap.size L, Res.blk gr #[.slice none 0 0] 26, Res.row kC 94 w0.heap.size (.slice (some adt) stepsL.length cA13) stepsL]) (rest := rest) [1, 2, 3, 4, 5, 0] HS.out rfl rfl)
        replace HS := A0_ ((show Sp w0 ([Res.blk gc #[.int .i64 (wrap64 (x.f0 + y.f0)), .int .i64 (wrap64 (x.f1 + y.f1)), .int .i64 (wrap64 (x.f2 + y.f2))] 94, srcR w0 gs code pA14 sA14, Res.row kSl 35 w0.heap.size (.slice (some ad) PS.length c) (QS.map Prod.fst), Res.poolG kC 94 w0.heap.size L, Res.blk gr #[.slice none 0 0] 26] ++ rest) _ from Sp.out (HS.out) 5))
        go_wp2
        go_meet
        case rel => exact ⟨gc, ⟨wrap64 (x.f0 + y.f0), wrap64 (x.f1 + y.f1), wrap64 (x.f2 + y.f2)⟩, _, _, rfl, HSR, HS⟩
      case rest =>
       clear HS HSR
       obtain ⟨gc, x, p6, s6, rfl, HSR, HS⟩ := hcut
       go_upto_region 24 with (fail)
       go_cut [128] from 110 to 127 (fun v128 w' => ∃ (b : Bool), v128 = .bool b ∧ Aside0 (Sp w0 ([Res.blk gc #[.int .i64 x.f0, .int .i64 x.f1, .int .i64 x.f2] 94, srcR w0 gs code p6 s6, Res.row kSl 35 w0.heap.size (.slice (some ad) PS.length c) (QS.map Prod.fst), Res.poolG kC 94 w0.heap.size L, Res.blk gr #[.slice none 0 0] 26] ++ rest) w'))
       case first =>
        have HQL := A0_ HY.out.2.1
        have HQS := A0_ HY.out.2.2.1
        have HQ1 := A0_ HY.out.2.2.2.1
        have hc0 := (cl_ HS 0 0 rfl).trans rfl; have hc1 := (cl_ HS 0 1 rfl).trans rfl; have hc2 := (cl_ HS 0 2 rfl).trans rfl
        go_wp2_with (first
         | (go_at_call 94; go_loud (obtain ⟨b, hb_⟩ := used_ev (QS.map Prod.snd) x (by rw [List.length_map, HQL.out]; have := HPN.out; omega) (fun q hq => by obtain ⟨z, hz, rfl⟩ := List.mem_map.1 hq; have := HQ1.out z hz; omega); obtain ⟨KU, hK_⟩ := hb_.rounds; have hk_ := Sp.kPos HS.out (i := 2) (j := 3) rfl rfl HQS.out; have hu_ := spec_l27Used.calls KU (some ad) c (QS.map Prod.snd) x.f0 x.f1 x.f2 b wc (by rw [List.length_map]; exact hk_) (by rw [List.length_map, HQL.out]; exact (Sp.reads HS.out (i := 2) rfl).2.1) hK_; rw [List.length_map, HQL.out] at hu_; refine hu_.mono ?_; rintro e wu_ ⟨rfl, hbl_⟩; replace HS := A0_ (Sp.far HS.out hbl_); clear hu_ hb_ hbl_ hk_ hK_ hc0 hc1 hc2; have hc0 := (cl_ HS 0 0 rfl).trans rfl; have hc1 := (cl_ HS 0 1 rfl).trans rfl; have hc2 := (cl_ HS 0 2 rfl).trans rfl)))
        all_goals
         go_meet
         case rel => exact ⟨_, rfl, HS⟩
       case rest =>
        clear HS
        obtain ⟨b, rfl, HS⟩ := hcut
        cases b with
        | false =>
         go_wp2
         replace HS := A0_ ((show Sp w0 ([srcR w0 gs code p6 s6, Res.row kSl 35 w0.heap.size (.slice (some ad) PS.length c) (QS.map Prod.fst), Res.poolG kC 94 w0.heap.size L, Res.blk gr #[.slice none 0 0] 26] ++ rest) _ from Sp.out (HS.out) 0))
         go_roundg k1
         case measure => omega
         case rel =>
          rw [wrap_pred n HCN.out (by have := HY.out.1; have := HQ2.out; omega)]
          exact ⟨n - 1, QS, L, _, _, rfl, ⟨by have := HY.out.1; have := HCN.out; omega, HY.out.2.1, HY.out.2.2.1, fun q hq => by have := HY.out.2.2.2.1 q hq; omega, HSR.out⟩, HS⟩
        | true =>
         go_wp2
         replace HS := A0_ (Sp.drew HS.out)
         refine start_ (n := 14) (S := fun w' => w'.cell? (ad.add k0) = some (.slice (some adq) oq.length cq) ∧ w'.cell? ⟨gc, 0, none⟩ = some (.int .i64 x.f0) ∧ w'.cell? ⟨gc, 1, none⟩ = some (.int .i64 x.f1) ∧ w'.cell? ⟨gc, 2, none⟩ = some (.int .i64 x.f2)) (ds := [13]) #[false, false, false, false, false, false, false, false, false, false, false, false, false, false] (by kernel_rfl) rfl rfl (⟨Sp.slCellV HS.out (i := 2) rfl k0 HK0.out HQK.out, (cl_ HS 0 0 rfl).trans rfl, (cl_ HS 0 1 rfl).trans rfl, (cl_ HS 0 2 rfl).trans rfl⟩) (fun hHeld => ?_)
         refine with_tabW drwF.tab25 drwF.bits25 (fun HT_ HW_ => ?_)
         generalize wc.drew = wD25_ at HS hHeld ⊢
         refine on_ 0 (some 129) ?_
         refine on_ 1 (some 130) ?_
         refine on_ 3 (some 132) ?_
         refine on_ 4 (some 133) ?_
         refine on_ 5 (some 134) ?_
         refine tk_ 6 (some 135) ?_
         refine tk_ 8 (some 137) ?_
         refine o2_ 2 9 (some 131) (some 138) (fun K hK => ?_) (fun K hK => ?_)
         ·refine Kd.R_lit_step kC _ 94 ?hg (N := 131) ?hd (xs := ([] : List Cb)) (inner := []) (ok := fun _ => True) (okp := fun _ => True) ?hr ?hp (fun _ hk => hk) trivial (Below.refl _ _) (Nat.le_refl _) (by simp) ?_
          (case hd => rfl)
          (case hg => rfl)
          (case hr => first | (go_simp; done) | (go_simp; rfl))
          (case hp => exact (Reps.none _ _))
          intro vA11 wA11 ho hb hg_ hnew_
          clear hg_ hnew_
          replace HS := A0_ (Sp.made' HS.out hb ho)
          clear hb ho
          obtain ⟨AA11, cA11, eA_⟩ := Sp.slice HS.out (i := 0) rfl
          subst eA_
          refine hK.out _ _ (⟨Sp.slCellV HS.out (i := 3) rfl k0 HK0.out HQK.out, (cl_ HS 1 0 rfl).trans rfl, (cl_ HS 1 1 rfl).trans rfl, (cl_ HS 1 2 rfl).trans rfl⟩) (fun hHeld => ?_)
          clear hK K
          refine nm_ (some 131) ?_
          refine o2_ 7 9 (some 136) (some 138) (fun K hK => ?_) (fun K hK => ?_)
          ·obtain ⟨fp_, ho_, hf_, hc_⟩ := Sp.row HS.out (i := 0) rfl
           refine Kd.R_append_rows_step kC w0.heap.size (by rfl) (.tmp 131) (.tmp 135) 35 94 (.agg #[(.int .i64 0), (.int .i64 0), (.int .i64 0)]) 24 rfl Try.underlying35 info94 rfl (by decide) (by omega) _ ([] : List Cb) oq _ _ _ _ (fun _ => False) rfl rfl ho_ ((Sp.poolGC HS.out (i := 4) rfl HQM.out).2.2) (fun _ _ h => h) (fun _ h => h.elim) (fun _ h => .inr h) HS.out.below HS.out.below.size ?aL ?_
           (case aL => have := HQ2.out; simp only [List.length_append, List.length_cons, List.length_nil]; omega)
           intro vA12 wA12 ho hb hg hat
           replace HS := A0_ (hc_ _ _ _ ho hg)
           clear ho hb hg hat ho_ hf_ hc_ fp_
           obtain ⟨AA12, cA12, eA_⟩ := Sp.slice HS.out (i := 0) rfl
           subst eA_
           refine hK.out _ _ (⟨Sp.slCellV HS.out (i := 3) rfl k0 HK0.out HQK.out, (cl_ HS 1 0 rfl).trans rfl, (cl_ HS 1 1 rfl).trans rfl, (cl_ HS 1 2 rfl).trans rfl⟩) (fun hHeld => ?_)
           clear hK K
           refine nm_ (some 136) ?_
           refine o1_ 9 (some 138) (fun K hK => ?_)
           refine Kd.R_lit_step kC _ 94 ?hg (N := 138) ?hd (xs := ([x] : List Cb)) (inner := [.int .i64 x.f0, .int .i64 x.f1, .int .i64 x.f2]) (ok := fun _ => True) (okp := fun _ => True) ?hr ?hp (fun _ hk => hk) trivial (Below.refl _ _) (Nat.le_refl _) (by simp) ?_
           (case hd => rfl)
           (case hg => rfl)
           (case hr => first | (go_simp; done) | (go_simp; rfl))
           (case hp => exact (Reps.c3 (reps1C _ _ _ x) (Reps.none _ _)))
           intro vA13 wA13 ho hb hg_ hnew_
           clear hg_ hnew_
           replace HS := A0_ (Sp.made' HS.out hb ho)
           clear hb ho
           obtain ⟨AA13, cA13, eA_⟩ := Sp.slice HS.out (i := 0) rfl
           subst eA_
           refine hK.out _ _ (⟨Sp.slCellV HS.out (i := 4) rfl k0 HK0.out HQK.out, (cl_ HS 2 0 rfl).trans rfl, (cl_ HS 2 1 rfl).trans rfl, (cl_ HS 2 2 rfl).trans rfl⟩) (fun hHeld => ?_)
           clear hK K
           refine nm_ (some 138) ?_
           refine o1_ 10 (some 139) (fun K hK => ?_)
           obtain ⟨fp_, ho_, hf_, hc_⟩ := Sp.row HS.out (i := 1) rfl
           refine Kd.R_append_rows_step kC w0.heap.size (by rfl) (.tmp 136) (.tmp 138) 35 94 (.agg #[(.int .i64 0), (.int .i64 0), (.int .i64 0)]) 24 rfl Try.underlying35 info94 rfl (by decide) (by omega) _ (([] : List Cb) ++ oq) ([x] : List Cb) _ _ _ _ (fun _ => False) rfl rfl ho_ ((Sp.reads HS.out (i := 0) rfl).2.2) (fun _ _ h => h) (fun _ h => h.elim) (fun _ h => .inr h) HS.out.below HS.out.below.size ?aL ?_
           (case aL => have := HQ2.out; simp only [List.length_append, List.length_cons, List.length_nil]; omega)
           intro vA14 wA14 ho hb hg hat
           replace HS := A0_ (hc_ _ _ _ ho hg)
           clear ho hb hg hat ho_ hf_ hc_ fp_
           obtain ⟨AA14, cA14, eA_⟩ := Sp.slice HS.out (i := 1) rfl
           subst eA_
           refine hK.out _ _ (⟨Sp.slCellV HS.out (i := 4) rfl k0 HK0.out HQK.out, (cl_ HS 2 0 rfl).trans rfl, (cl_ HS 2 1 rfl).trans rfl, (cl_ HS 2 2 rfl).trans rfl⟩) (fun hHeld => ?_)
           clear hK K
           refine nm_ (some 139) ?_
           refine o1_ 11 (some 140) (fun K hK => ?_)
           refine gs_ Try.func96 #[.slice AA14 (((([] : List Cb) ++ oq) ++ ([x] : List Cb))).length cA14] ?_
           refine (sort_calls AA14 cA14 ((([] : List Cb) ++ oq) ++ ([x] : List Cb)) _ (Sp.reads HS.out (i := 1) rfl).2.2 (Sp.reads HS.out (i := 1) rfl).2.1 (by have := HQ2.out; simp only [List.length_append, List.length_cons, List.length_nil]; omega)).mono ?_
           rintro e wA15 ⟨vA15, ys, rfl, hyl, ho, hb⟩
           refine ⟨_, rfl, ?_⟩
           have HYL := A0_ (show ys.length = oq.length + 1 by rw [hyl]; simp only [List.length_append, List.length_cons, List.length_nil]; omega)
           replace HS := A0_ (Sp.made' HS.out hb ho)
           clear hb ho hyl
           obtain ⟨AA15, cA15, e_⟩ := Sp.slice HS.out (i := 0) rfl
           subst e_
           refine hK.out _ _ (⟨Sp.slCellV HS.out (i := 5) rfl k0 HK0.out HQK.out, (cl_ HS 3 0 rfl).trans rfl, (cl_ HS 3 1 rfl).trans rfl, (cl_ HS 3 2 rfl).trans rfl⟩) (fun hHeld => ?_)
           clear hK K
           refine nm_ (some 140) ?_
           refine on_ 12 (some 141) ?_
           refine ol_ 13 none (fun K hK => ?_)
           obtain ⟨wT16, hr_, hs_⟩ := Sp.slStore HS.out (i := 5) rfl k0 HK0.out (AA15, ys.length, cA15)
           refine skip_ (w1 := wT16) (by rfl) rfl (exec_store (v := .pointer (some (ad.add k0))) (u := .slice AA15 ys.length cA15) rfl (by first | rfl | (go_simp; done) | (go_simp; rfl)) (by first | rfl | (go_simp; done) | (go_simp; rfl)) (by first | exact hr_ | simpa using hr_)) ?_
           clear hr_ HS
           have HS := A0_ hs_
           clear hs_
           refine hK.out _ _ ?_
           clear hK K
           refine dn_ ?_
           replace HS := A0_ (Sp.arr (pre := [Res.row kC 94 w0.heap.size (.slice AA15 ys.length cA15) ys, Res.row kC 94 w0.heap.size (.slice AA13 (([x] : List Cb)).length cA13) ([x] : List Cb), Res.row kC 94 w0.heap.size (.slice AA14 (((([] : List Cb) ++ oq) ++ ([x] : List Cb))).length cA14) ((([] : List Cb) ++ oq) ++ ([x] : List Cb)), Res.blk gc #[.int .i64 x.f0, .int .i64 x.f1, .int .i64 x.f2] 94, srcR w0 gs code p6 s6, Res.row kSl 35 w0.heap.size (.slice (some ad) PS.length c) ((QS.map Prod.fst).set k0 (AA15, ys.length, cA15)), Res.poolG kC 94 w0.heap.size L, Res.blk gr #[.slice none 0 0] 26]) (pre' := [Res.row kC 94 w0.heap.size (.slice AA15 ys.length cA15) ys, Res.poolG kC 94 w0.heap.size L, srcR w0 gs code p6 s6, Res.row kSl 35 w0.heap.size (.slice (some ad) PS.length c) ((QS.map Prod.fst).set k0 (AA15, ys.length, cA15)), Res.blk gr #[.slice none 0 0] 26, Res.row kC 94 w0.heap.size (.slice AA13 (([x] : List Cb)).length cA13) ([x] : List Cb), Res.row kC 94 w0.heap.size (.slice AA14 (((([] : List Cb) ++ oq) ++ ([x] : List Cb))).length cA14) ((([] : List Cb) ++ oq) ++ ([x] : List Cb)), Res.blk gc #[.int .i64 x.f0, .int .i64 x.f1, .int .i64 x.f2] 94]) (rest := rest) [0, 6, 4, 5, 7, 1, 2, 3] HS.out rfl rfl)
           replace HS := A0_ (Sp.poolGAdd HS.out)
           replace HS := A0_ (Sp.arr (pre := [Res.poolG kC 94 w0.heap.size (L ++ [((AA15, ys.length, cA15), ys)]), srcR w0 gs code p6 s6, Res.row kSl 35 w0.heap.size (.slice (some ad) PS.length c) ((QS.map Prod.fst).set k0 (AA15, ys.length, cA15)), Res.blk gr #[.slice none 0 0] 26, Res.row kC 94 w0.heap.size (.slice AA13 (([x] : List Cb)).length cA13) ([x] : List Cb), Res.row kC 94 w0.heap.size (.slice AA14 (((([] : List Cb) ++ oq) ++ ([x] : List Cb))).length cA14) ((([] : List Cb) ++ oq) ++ ([x] : List Cb)), Res.blk gc #[.int .i64 x.f0, .int .i64 x.f1, .int .i64 x.f2] 94]) (pre' := [srcR w0 gs code p6 s6, Res.row kSl 35 w0.heap.size (.slice (some ad) PS.length c) ((QS.map Prod.fst).set k0 (AA15, ys.length, cA15)), Res.poolG kC 94 w0.heap.size (L ++ [((AA15, ys.length, cA15), ys)]), Res.blk gr #[.slice none 0 0] 26, Res.row kC 94 w0.heap.size (.slice AA13 (([x] : List Cb)).length cA13) ([x] : List Cb), Res.row kC 94 w0.heap.size (.slice AA14 (((([] : List Cb) ++ oq) ++ ([x] : List Cb))).length cA14) ((([] : List Cb) ++ oq) ++ ([x] : List Cb)), Res.blk gc #[.int .i64 x.f0, .int .i64 x.f1, .int .i64 x.f2] 94]) (rest := rest) [1, 2, 0, 3, 4, 5, 6] HS.out rfl rfl)
           replace HS := A0_ ((show Sp w0 ([srcR w0 gs code p6 s6, Res.row kSl 35 w0.heap.size (.slice (some ad) PS.length c) ((QS.map Prod.fst).set k0 (AA15, ys.length, cA15)), Res.poolG kC 94 w0.heap.size (L ++ [((AA15, ys.length, cA15), ys)]), Res.blk gr #[.slice none 0 0] 26] ++ rest) _ from Sp.out (Sp.out (Sp.out (HS.out) 6) 5) 4))
           go_wp2
           go_roundg k1
           case measure => omega
           case rel =>
            rw [wrap_pred n HCN.out (by have := HY.out.1; have := HQ2.out; omega)]
            refine ⟨n - 1, QS.set k0 ((AA15, ys.length, cA15), ys), L ++ [((AA15, ys.length, cA15), ys)], _, _, rfl, ⟨by have := HY.out.1; have := HCN.out; omega, by rw [List.length_set]; exact HY.out.2.1, fun q hq => ?_, fun q hq => ?_, HSR.out⟩, ⟨by rw [map_fst_set]; exact HS.out⟩⟩
            ·rcases List.mem_or_eq_of_mem_set hq with h | rfl
             ·exact List.mem_append_left _ (HY.out.2.2.1 q h)
             ·exact List.mem_append_right _ List.mem_cons_self
            ·rcases List.mem_or_eq_of_mem_set hq with h | rfl
             ·have := HY.out.2.2.2.1 q h; omega
             ·have := HYL.out; have := HQ2.out; have := HCN.out; show 1 ≤ ys.length ∧ ys.length + (n - 1) ≤ 15; omega
          ·refine Kd.R_lit_step kC _ 94 ?hg (N := 138) ?hd (xs := ([x] : List Cb)) (inner := [.int .i64 x.f0, .int .i64 x.f1, .int .i64 x.f2]) (ok := fun _ => True) (okp := fun _ => True) ?hr ?hp (fun _ hk => hk) trivial (Below.refl _ _) (Nat.le_refl _) (by simp) ?_
           (case hd => rfl)
           (case hg => rfl)
           (case hr => first | (go_simp; done) | (go_simp; rfl))
           (case hp => exact (Reps.c3 (reps1C _ _ _ x) (Reps.none _ _)))
           intro vA12 wA12 ho hb hg_ hnew_
           clear hg_ hnew_
           replace HS := A0_ (Sp.made' HS.out hb ho)
           clear hb ho
           obtain ⟨AA12, cA12, eA_⟩ := Sp.slice HS.out (i := 0) rfl
           subst eA_
           refine hK.out _ _ (⟨Sp.slCellV HS.out (i := 4) rfl k0 HK0.out HQK.out, (cl_ HS 2 0 rfl).trans rfl, (cl_ HS 2 1 rfl).trans rfl, (cl_ HS 2 2 rfl).trans rfl⟩) (fun hHeld => ?_)
           clear hK K
           refine nm_ (some 138) ?_
           refine o1_ 7 (some 136) (fun K hK => ?_)
           obtain ⟨fp_, ho_, hf_, hc_⟩ := Sp.row HS.out (i := 1) rfl
           refine Kd.R_append_rows_step kC w0.heap.size (by rfl) (.tmp 131) (.tmp 135) 35 94 (.agg #[(.int .i64 0), (.int .i64 0), (.int .i64 0)]) 24 rfl Try.underlying35 info94 rfl (by decide) (by omega) _ ([] : List Cb) oq _ _ _ _ (fun _ => False) rfl rfl ho_ ((Sp.poolGC HS.out (i := 5) rfl HQM.out).2.2) (fun _ _ h => h) (fun _ h => h.elim) (fun _ h => .inr h) HS.out.below HS.out.below.size ?aL ?_
           (case aL => have := HQ2.out; simp only [List.length_append, List.length_cons, List.length_nil]; omega)
           intro vA13 wA13 ho hb hg hat
           replace HS := A0_ (hc_ _ _ _ ho hg)
           clear ho hb hg hat ho_ hf_ hc_ fp_
           obtain ⟨AA13, cA13, eA_⟩ := Sp.slice HS.out (i := 1) rfl
           subst eA_
           refine hK.out _ _ (⟨Sp.slCellV HS.out (i := 4) rfl k0 HK0.out HQK.out, (cl_ HS 2 0 rfl).trans rfl, (cl_ HS 2 1 rfl).trans rfl, (cl_ HS 2 2 rfl).trans rfl⟩) (fun hHeld => ?_)
           clear hK K
           refine nm_ (some 136) ?_
           refine o1_ 10 (some 139) (fun K hK => ?_)
           obtain ⟨fp_, ho_, hf_, hc_⟩ := Sp.row HS.out (i := 1) rfl
           refine Kd.R_append_rows_step kC w0.heap.size (by rfl) (.tmp 136) (.tmp 138) 35 94 (.agg #[(.int .i64 0), (.int .i64 0), (.int .i64 0)]) 24 rfl Try.underlying35 info94 rfl (by decide) (by omega) _ (([] : List Cb) ++ oq) ([x] : List Cb) _ _ _ _ (fun _ => False) rfl rfl ho_ ((Sp.reads HS.out (i := 0) rfl).2.2) (fun _ _ h => h) (fun _ h => h.elim) (fun _ h => .inr h) HS.out.below HS.out.below.size ?aL ?_
           (case aL => have := HQ2.out; simp only [List.length_append, List.length_cons, List.length_nil]; omega)
           intro vA14 wA14 ho hb hg hat
           replace HS := A0_ (hc_ _ _ _ ho hg)
           clear ho hb hg hat ho_ hf_ hc_ fp_
           obtain ⟨AA14, cA14, eA_⟩ := Sp.slice HS.out (i := 1) rfl
           subst eA_
           refine hK.out _ _ (⟨Sp.slCellV HS.out (i := 4) rfl k0 HK0.out HQK.out, (cl_ HS 2 0 rfl).trans rfl, (cl_ HS 2 1 rfl).trans rfl, (cl_ HS 2 2 rfl).trans rfl⟩) (fun hHeld => ?_)
           clear hK K
           refine nm_ (some 139) ?_
           refine o1_ 11 (some 140) (fun K hK => ?_)
           refine gs_ Try.func96 #[.slice AA14 (((([] : List Cb) ++ oq) ++ ([x] : List Cb))).length cA14] ?_
           refine (sort_calls AA14 cA14 ((([] : List Cb) ++ oq) ++ ([x] : List Cb)) _ (Sp.reads HS.out (i := 1) rfl).2.2 (Sp.reads HS.out (i := 1) rfl).2.1 (by have := HQ2.out; simp only [List.length_append, List.length_cons, List.length_nil]; omega)).mono ?_
           rintro e wA15 ⟨vA15, ys, rfl, hyl, ho, hb⟩
           refine ⟨_, rfl, ?_⟩
           have HYL := A0_ (show ys.length = oq.length + 1 by rw [hyl]; simp only [List.length_append, List.length_cons, List.length_nil]; omega)
           replace HS := A0_ (Sp.made' HS.out hb ho)
           clear hb ho hyl
           obtain ⟨AA15, cA15, e_⟩ := Sp.slice HS.out (i := 0) rfl
           subst e_
           refine hK.out _ _ (⟨Sp.slCellV HS.out (i := 5) rfl k0 HK0.out HQK.out, (cl_ HS 3 0 rfl).trans rfl, (cl_ HS 3 1 rfl).trans rfl, (cl_ HS 3 2 rfl).trans rfl⟩) (fun hHeld => ?_)
           clear hK K
           refine nm_ (some 140) ?_
           refine on_ 12 (some 141) ?_
           refine ol_ 13 none (fun K hK => ?_)
           obtain ⟨wT16, hr_, hs_⟩ := Sp.slStore HS.out (i := 5) rfl k0 HK0.out (AA15, ys.length, cA15)
           refine skip_ (w1 := wT16) (by rfl) rfl (exec_store (v := .pointer (some (ad.add k0))) (u := .slice AA15 ys.length cA15) rfl (by first | rfl | (go_simp; done) | (go_simp; rfl)) (by first | rfl | (go_simp; done) | (go_simp; rfl)) (by first | exact hr_ | simpa using hr_)) ?_
           clear hr_ HS
           have HS := A0_ hs_
           clear hs_
           refine hK.out _ _ ?_
           clear hK K
           refine dn_ ?_
           replace HS := A0_ (Sp.arr (pre := [Res.row kC 94 w0.heap.size (.slice AA15 ys.length cA15) ys, Res.row kC 94 w0.heap.size (.slice AA12 (([x] : List Cb)).length cA12) ([x] : List Cb), Res.row kC 94 w0.heap.size (.slice AA14 (((([] : List Cb) ++ oq) ++ ([x] : List Cb))).length cA14) ((([] : List Cb) ++ oq) ++ ([x] : List Cb)), Res.blk gc #[.int .i64 x.f0, .int .i64 x.f1, .int .i64 x.f2] 94, srcR w0 gs code p6 s6, Res.row kSl 35 w0.heap.size (.slice (some ad) PS.length c) ((QS.map Prod.fst).set k0 (AA15, ys.length, cA15)), Res.poolG kC 94 w0.heap.size L, Res.blk gr #[.slice none 0 0] 26]) (pre' := [Res.row kC 94 w0.heap.size (.slice AA15 ys.length cA15) ys, Res.poolG kC 94 w0.heap.size L, srcR w0 gs code p6 s6, Res.row kSl 35 w0.heap.size (.slice (some ad) PS.length c) ((QS.map Prod.fst).set k0 (AA15, ys.length, cA15)), Res.blk gr #[.slice none 0 0] 26, Res.row kC 94 w0.heap.size (.slice AA12 (([x] : List Cb)).length cA12) ([x] : List Cb), Res.row kC 94 w0.heap.size (.slice AA14 (((([] : List Cb) ++ oq) ++ ([x] : List Cb))).length cA14) ((([] : List Cb) ++ oq) ++ ([x] : List Cb)), Res.blk gc #[.int .i64 x.f0, .int .i64 x.f1, .int .i64 x.f2] 94]) (rest := rest) [0, 6, 4, 5, 7, 1, 2, 3] HS.out rfl rfl)
           replace HS := A0_ (Sp.poolGAdd HS.out)
           replace HS := A0_ (Sp.arr (pre := [Res.poolG kC 94 w0.heap.size (L ++ [((AA15, ys.length, cA15), ys)]), srcR w0 gs code p6 s6, Res.row kSl 35 w0.heap.size (.slice (some ad) PS.length c) ((QS.map Prod.fst).set k0 (AA15, ys.length, cA15)), Res.blk gr #[.slice none 0 0] 26, Res.row kC 94 w0.heap.size (.slice AA12 (([x] : List Cb)).length cA12) ([x] : List Cb), Res.row kC 94 w0.heap.size (.slice AA14 (((([] : List Cb) ++ oq) ++ ([x] : List Cb))).length cA14) ((([] : List Cb) ++ oq) ++ ([x] : List Cb)), Res.blk gc #[.int .i64 x.f0, .int .i64 x.f1, .int .i64 x.f2] 94]) (pre' := [srcR w0 gs code p6 s6, Res.row kSl 35 w0.heap.size (.slice (some ad) PS.length c) ((QS.map Prod.fst).set k0 (AA15, ys.length, cA15)), Res.poolG kC 94 w0.heap.size (L ++ [((AA15, ys.length, cA15), ys)]), Res.blk gr #[.slice none 0 0] 26, Res.row kC 94 w0.heap.size (.slice AA12 (([x] : List Cb)).length cA12) ([x] : List Cb), Res.row kC 94 w0.heap.size (.slice AA14 (((([] : List Cb) ++ oq) ++ ([x] : List Cb))).length cA14) ((([] : List Cb) ++ oq) ++ ([x] : List Cb)), Res.blk gc #[.int .i64 x.f0, .int .i64 x.f1, .int .i64 x.f2] 94]) (rest := rest) [1, 2, 0, 3, 4, 5, 6] HS.out rfl rfl)
           replace HS := A0_ ((show Sp w0 ([srcR w0 gs code p6 s6, Res.row kSl 35 w0.heap.size (.slice (some ad) PS.length c) ((QS.map Prod.fst).set k0 (AA15, ys.length, cA15)), Res.poolG kC 94 w0.heap.size (L ++ [((AA15, ys.length, cA15), ys)]), Res.blk gr #[.slice none 0 0] 26] ++ rest) _ from Sp.out (Sp.out (Sp.out (HS.out) 6) 5) 4))
           go_wp2
           go_roundg k1
           case measure => omega
           case rel =>
            rw [wrap_pred n HCN.out (by have := HY.out.1; have := HQ2.out; omega)]
            refine ⟨n - 1, QS.set k0 ((AA15, ys.length, cA15), ys), L ++ [((AA15, ys.length, cA15), ys)], _, _, rfl, ⟨by have := HY.out.1; have := HCN.out; omega, by rw [List.length_set]; exact HY.out.2.1, fun q hq => ?_, fun q hq => ?_, HSR.out⟩, ⟨by rw [map_fst_set]; exact HS.out⟩⟩
            ·rcases List.mem_or_eq_of_mem_set hq with h | rfl
             ·exact List.mem_append_left _ (HY.out.2.2.1 q h)
             ·exact List.mem_append_right _ List.mem_cons_self
            ·rcases List.mem_or_eq_of_mem_set hq with h | rfl
             ·have := HY.out.2.2.2.1 q h; omega
             ·have := HYL.out; have := HQ2.out; have := HCN.out; show 1 ≤ ys.length ∧ ys.length + (n - 1) ≤ 15; omega
         ·refine Kd.R_lit_step kC _ 94 ?hg (N := 138) ?hd (xs := ([x] : List Cb)) (inner := [.int .i64 x.f0, .int .i64 x.f1, .int .i64 x.f2]) (ok := fun _ => True) (okp := fun _ => True) ?hr ?hp (fun _ hk => hk) trivial (Below.refl _ _) (Nat.le_refl _) (by simp) ?_
          (case hd => rfl)
          (case hg => rfl)
          (case hr => first | (go_simp; done) | (go_simp; rfl))
          (case hp => exact (Reps.c3 (reps1C _ _ _ x) (Reps.none _ _)))
          intro vA11 wA11 ho hb hg_ hnew_
          clear hg_ hnew_
          replace HS := A0_ (Sp.made' HS.out hb ho)
          clear hb ho
          obtain ⟨AA11, cA11, eA_⟩ := Sp.slice HS.out (i := 0) rfl
          subst eA_
          refine hK.out _ _ (⟨Sp.slCellV HS.out (i := 3) rfl k0 HK0.out HQK.out, (cl_ HS 1 0 rfl).trans rfl, (cl_ HS 1 1 rfl).trans rfl, (cl_ HS 1 2 rfl).trans rfl⟩) (fun hHeld => ?_)
          clear hK K
          refine nm_ (some 138) ?_
          refine o1_ 2 (some 131) (fun K hK => ?_)
          refine Kd.R_lit_step kC _ 94 ?hg (N := 131) ?hd (xs := ([] : List Cb)) (inner := []) (ok := fun _ => True) (okp := fun _ => True) ?hr ?hp (fun _ hk => hk) trivial (Below.refl _ _) (Nat.le_refl _) (by simp) ?_
          (case hd => rfl)
          (case hg => rfl)
          (case hr => first | (go_simp; done) | (go_simp; rfl))
          (case hp => exact (Reps.none _ _))
          intro vA12 wA12 ho hb hg_ hnew_
          clear hg_ hnew_
          replace HS := A0_ (Sp.made' HS.out hb ho)
          clear hb ho
          obtain ⟨AA12, cA12, eA_⟩ := Sp.slice HS.out (i := 0) rfl
          subst eA_
          refine hK.out _ _ (⟨Sp.slCellV HS.out (i := 4) rfl k0 HK0.out HQK.out, (cl_ HS 2 0 rfl).trans rfl, (cl_ HS 2 1 rfl).trans rfl, (cl_ HS 2 2 rfl).trans rfl⟩) (fun hHeld => ?_)
          clear hK K
          refine nm_ (some 131) ?_
          refine o1_ 7 (some 136) (fun K hK => ?_)
          obtain ⟨fp_, ho_, hf_, hc_⟩ := Sp.row HS.out (i := 0) rfl
          refine Kd.R_append_rows_step kC w0.heap.size (by rfl) (.tmp 131) (.tmp 135) 35 94 (.agg #[(.int .i64 0), (.int .i64 0), (.int .i64 0)]) 24 rfl Try.underlying35 info94 rfl (by decide) (by omega) _ ([] : List Cb) oq _ _ _ _ (fun _ => False) rfl rfl ho_ ((Sp.poolGC HS.out (i := 5) rfl HQM.out).2.2) (fun _ _ h => h) (fun _ h => h.elim) (fun _ h => .inr h) HS.out.below HS.out.below.size ?aL ?_
          (case aL => have := HQ2.out; simp only [List.length_append, List.length_cons, List.length_nil]; omega)
          intro vA13 wA13 ho hb hg hat
          replace HS := A0_ (hc_ _ _ _ ho hg)
          clear ho hb hg hat ho_ hf_ hc_ fp_
          obtain ⟨AA13, cA13, eA_⟩ := Sp.slice HS.out (i := 0) rfl
          subst eA_
          refine hK.out _ _ (⟨Sp.slCellV HS.out (i := 4) rfl k0 HK0.out HQK.out, (cl_ HS 2 0 rfl).trans rfl, (cl_ HS 2 1 rfl).trans rfl, (cl_ HS 2 2 rfl).trans rfl⟩) (fun hHeld => ?_)
          clear hK K
          refine nm_ (some 136) ?_
          refine o1_ 10 (some 139) (fun K hK => ?_)
          obtain ⟨fp_, ho_, hf_, hc_⟩ := Sp.row HS.out (i := 0) rfl
          refine Kd.R_append_rows_step kC w0.heap.size (by rfl) (.tmp 136) (.tmp 138) 35 94 (.agg #[(.int .i64 0), (.int .i64 0), (.int .i64 0)]) 24 rfl Try.underlying35 info94 rfl (by decide) (by omega) _ (([] : List Cb) ++ oq) ([x] : List Cb) _ _ _ _ (fun _ => False) rfl rfl ho_ ((Sp.reads HS.out (i := 1) rfl).2.2) (fun _ _ h => h) (fun _ h => h.elim) (fun _ h => .inr h) HS.out.below HS.out.below.size ?aL ?_
          (case aL => have := HQ2.out; simp only [List.length_append, List.length_cons, List.length_nil]; omega)
          intro vA14 wA14 ho hb hg hat
          replace HS := A0_ (hc_ _ _ _ ho hg)
          clear ho hb hg hat ho_ hf_ hc_ fp_
          obtain ⟨AA14, cA14, eA_⟩ := Sp.slice HS.out (i := 0) rfl
          subst eA_
          refine hK.out _ _ (⟨Sp.slCellV HS.out (i := 4) rfl k0 HK0.out HQK.out, (cl_ HS 2 0 rfl).trans rfl, (cl_ HS 2 1 rfl).trans rfl, (cl_ HS 2 2 rfl).trans rfl⟩) (fun hHeld => ?_)
          clear hK K
          refine nm_ (some 139) ?_
          refine o1_ 11 (some 140) (fun K hK => ?_)
          refine gs_ Try.func96 #[.slice AA14 (((([] : List Cb) ++ oq) ++ ([x] : List Cb))).length cA14] ?_
          refine (sort_calls AA14 cA14 ((([] : List Cb) ++ oq) ++ ([x] : List Cb)) _ (Sp.reads HS.out (i := 0) rfl).2.2 (Sp.reads HS.out (i := 0) rfl).2.1 (by have := HQ2.out; simp only [List.length_append, List.length_cons, List.length_nil]; omega)).mono ?_
          rintro e wA15 ⟨vA15, ys, rfl, hyl, ho, hb⟩
          refine ⟨_, rfl, ?_⟩
          have HYL := A0_ (show ys.length = oq.length + 1 by rw [hyl]; simp only [List.length_append, List.length_cons, List.length_nil]; omega)
          replace HS := A0_ (Sp.made' HS.out hb ho)
          clear hb ho hyl
          obtain ⟨AA15, cA15, e_⟩ := Sp.slice HS.out (i := 0) rfl
          subst e_
          refine hK.out _ _ (⟨Sp.slCellV HS.out (i := 5) rfl k0 HK0.out HQK.out, (cl_ HS 3 0 rfl).trans rfl, (cl_ HS 3 1 rfl).trans rfl, (cl_ HS 3 2 rfl).trans rfl⟩) (fun hHeld => ?_)
          clear hK K
          refine nm_ (some 140) ?_
          refine on_ 12 (some 141) ?_
          refine ol_ 13 none (fun K hK => ?_)
          obtain ⟨wT16, hr_, hs_⟩ := Sp.slStore HS.out (i := 5) rfl k0 HK0.out (AA15, ys.length, cA15)
          refine skip_ (w1 := wT16) (by rfl) rfl (exec_store (v := .pointer (some (ad.add k0))) (u := .slice AA15 ys.length cA15) rfl (by first | rfl | (go_simp; done) | (go_simp; rfl)) (by first | rfl | (go_simp; done) | (go_simp; rfl)) (by first | exact hr_ | simpa using hr_)) ?_
          clear hr_ HS
          have HS := A0_ hs_
          clear hs_
          refine hK.out _ _ ?_
          clear hK K
          refine dn_ ?_
          replace HS := A0_ (Sp.arr (pre := [Res.row kC 94 w0.heap.size (.slice AA15 ys.length cA15) ys, Res.row kC 94 w0.heap.size (.slice AA14 (((([] : List Cb) ++ oq) ++ ([x] : List Cb))).length cA14) ((([] : List Cb) ++ oq) ++ ([x] : List Cb)), Res.row kC 94 w0.heap.size (.slice AA11 (([x] : List Cb)).length cA11) ([x] : List Cb), Res.blk gc #[.int .i64 x.f0, .int .i64 x.f1, .int .i64 x.f2] 94, srcR w0 gs code p6 s6, Res.row kSl 35 w0.heap.size (.slice (some ad) PS.length c) ((QS.map Prod.fst).set k0 (AA15, ys.length, cA15)), Res.poolG kC 94 w0.heap.size L, Res.blk gr #[.slice none 0 0] 26]) (pre' := [Res.row kC 94 w0.heap.size (.slice AA15 ys.length cA15) ys, Res.poolG kC 94 w0.heap.size L, srcR w0 gs code p6 s6, Res.row kSl 35 w0.heap.size (.slice (some ad) PS.length c) ((QS.map Prod.fst).set k0 (AA15, ys.length, cA15)), Res.blk gr #[.slice none 0 0] 26, Res.row kC 94 w0.heap.size (.slice AA14 (((([] : List Cb) ++ oq) ++ ([x] : List Cb))).length cA14) ((([] : List Cb) ++ oq) ++ ([x] : List Cb)), Res.row kC 94 w0.heap.size (.slice AA11 (([x] : List Cb)).length cA11) ([x] : List Cb), Res.blk gc #[.int .i64 x.f0, .int .i64 x.f1, .int .i64 x.f2] 94]) (rest := rest) [0, 6, 4, 5, 7, 1, 2, 3] HS.out rfl rfl)
          replace HS := A0_ (Sp.poolGAdd HS.out)
          replace HS := A0_ (Sp.arr (pre := [Res.poolG kC 94 w0.heap.size (L ++ [((AA15, ys.length, cA15), ys)]), srcR w0 gs code p6 s6, Res.row kSl 35 w0.heap.size (.slice (some ad) PS.length c) ((QS.map Prod.fst).set k0 (AA15, ys.length, cA15)), Res.blk gr #[.slice none 0 0] 26, Res.row kC 94 w0.heap.size (.slice AA14 (((([] : List Cb) ++ oq) ++ ([x] : List Cb))).length cA14) ((([] : List Cb) ++ oq) ++ ([x] : List Cb)), Res.row kC 94 w0.heap.size (.slice AA11 (([x] : List Cb)).length cA11) ([x] : List Cb), Res.blk gc #[.int .i64 x.f0, .int .i64 x.f1, .int .i64 x.f2] 94]) (pre' := [srcR w0 gs code p6 s6, Res.row kSl 35 w0.heap.size (.slice (some ad) PS.length c) ((QS.map Prod.fst).set k0 (AA15, ys.length, cA15)), Res.poolG kC 94 w0.heap.size (L ++ [((AA15, ys.length, cA15), ys)]), Res.blk gr #[.slice none 0 0] 26, Res.row kC 94 w0.heap.size (.slice AA14 (((([] : List Cb) ++ oq) ++ ([x] : List Cb))).length cA14) ((([] : List Cb) ++ oq) ++ ([x] : List Cb)), Res.row kC 94 w0.heap.size (.slice AA11 (([x] : List Cb)).length cA11) ([x] : List Cb), Res.blk gc #[.int .i64 x.f0, .int .i64 x.f1, .int .i64 x.f2] 94]) (rest := rest) [1, 2, 0, 3, 4, 5, 6] HS.out rfl rfl)
          replace HS := A0_ ((show Sp w0 ([srcR w0 gs code p6 s6, Res.row kSl 35 w0.heap.size (.slice (some ad) PS.length c) ((QS.map Prod.fst).set k0 (AA15, ys.length, cA15)), Res.poolG kC 94 w0.heap.size (L ++ [((AA15, ys.length, cA15), ys)]), Res.blk gr #[.slice none 0 0] 26] ++ rest) _ from Sp.out (Sp.out (Sp.out (HS.out) 6) 4) 4))
          go_wp2
          go_roundg k1
          case measure => omega
          case rel =>
           rw [wrap_pred n HCN.out (by have := HY.out.1; have := HQ2.out; omega)]
           refine ⟨n - 1, QS.set k0 ((AA15, ys.length, cA15), ys), L ++ [((AA15, ys.length, cA15), ys)], _, _, rfl, ⟨by have := HY.out.1; have := HCN.out; omega, by rw [List.length_set]; exact HY.out.2.1, fun q hq => ?_, fun q hq => ?_, HSR.out⟩, ⟨by rw [map_fst_set]; exact HS.out⟩⟩
           ·rcases List.mem_or_eq_of_mem_set hq with h | rfl
            ·exact List.mem_append_left _ (HY.out.2.2.1 q h)
            ·exact List.mem_append_right _ List.mem_cons_self
           ·rcases List.mem_or_eq_of_mem_set hq with h | rfl
            ·have := HY.out.2.2.2.1 q h; omega
            ·have := HYL.out; have := HQ2.out; have := HCN.out; show 1 ≤ ys.length ∧ ys.length + (n - 1) ≤ 15; omega
     ·have q0 : decide (0 < n) = false := decide_eq_false cn
      have q1 : ((n : Int) > 0) = False := eq_false (by omega)
      have q2 : ((0 : Int) < (n : Int)) = False := eq_false (by omega)
      have q3 : (0 < n) = False := eq_false cn
      have HQL := A0_ HY.out.2.1
      have HQS := A0_ HY.out.2.2.1
      have HQ1 := A0_ HY.out.2.2.2.1
      have h0p : (0 < PS.length) = True := eq_true (by have := HPN.out; omega)
      have h1p : (1 ≤ PS.length) = True := eq_true HPN.out.1
      have hcap := (Sp.reads HS.out (i := 1) rfl).2.1
      have h1c : (1 ≤ c) = True := eq_true (by have := HPN.out; omega)
      have HCAP := A0_ hcap
      clear cn hcap
      go_upto_region 27 with (first
       | (go_at_call 57; go_loud (refine (next_at HOK.out HSR.out 30 (i := 0) rfl _ HS.out).mono ?_; rintro e w7 ⟨r9, p9, s9, rfl, hr_, hS1, hs_⟩; clear HSR; have HSR := A0_ hS1; replace HS := A0_ (hs_); clear hs_ hS1; clear hr_)))
      have HS_ : Aside0 (Sp w0 ([srcR w0 gs code p9 s9, Res.row kSl 35 w0.heap.size (.slice A PS.length c) (QS.map Prod.fst), Res.poolG kC 94 w0.heap.size L, Res.blk gr #[.slice none 0 0] 26] ++ rest) _) := HS; clear HS; have HS := HS_; clear HS_
      have HCAP2 := A0_ (show QS.length ≤ c by have := HCAP.out; have := HQL.out; omega)
      rcases five r9 with h1_ | h1_ | h1_ | h1_ | ⟨z0, z1, z2, z3, z4, z5, z6, z7⟩
      ·subst h1_
       obtain ⟨ad, e_⟩ := Sp.some_ HS.out (i := 1) rfl (by have := HPN.out; omega)
       subst e_
       obtain ⟨⟨⟨Aq, nq, cq⟩, oq⟩, hq_⟩ : ∃ q, q = QS.getD 0 default := ⟨_, rfl⟩
       have hkq : 0 < QS.length := by have := HQL.out; have := HPN.out; omega
       have hqm : ((Aq, nq, cq), oq) ∈ QS := by rw [hq_, List.getD_eq_getElem?_getD, List.getElem?_eq_getElem hkq]; exact List.getElem_mem hkq
       have HQK := A0_ (show (QS.map Prod.fst).getD 0 (none, 0, 0) = (Aq, nq, cq) by rw [List.getD_eq_getElem?_getD, List.getElem?_map, List.getElem?_eq_getElem hkq]; rw [List.getD_eq_getElem?_getD, List.getElem?_eq_getElem hkq] at hq_; simp only [Option.map_some, Option.getD_some] at hq_ ⊢; rw [← hq_])
       have HQN := A0_ hqm
       have HQM := A0_ (HQS.out _ hqm)
       have HQ2 := A0_ (show 1 ≤ oq.length ∧ oq.length ≤ 15 by have h_ : 1 ≤ oq.length ∧ oq.length + n ≤ 15 := HQ1.out _ hqm; omega)
       have hnq := (Sp.poolGC HS.out (i := 2) rfl HQM.out).1
       replace hnq : nq = oq.length := hnq
       subst hnq
       have h0q : (0 < PS.length) = True := eq_true (by have := HPN.out; omega)
       have h0r : ((0 : Int) < (PS.length : Int)) = True := eq_true (by have := HPN.out; omega)
       have HKQ := A0_ (show 0 < PS.length by have := HPN.out; omega)
       have HCC := A0_ (show PS.length ≤ c by have := HCAP.out; omega)
       clear hkq hqm hq_
       have hx : w7.cell? ad = some (.slice Aq oq.length cq) := (show _ from Sp.slCell0V HS.out (i := 1) rfl HKQ.out HQK.out)
       go_wp2_with (first
        | ((with_reducible refine gate_dst (N := 150) rfl ?_); refine Kd.R_lit kSl _ 35 ?hg (N := 150) ?hd (xs := ([(Aq, oq.length, cq)] : List Sl)) (inner := [.slice Aq oq.length cq]) (ok := fun _ => True) (okp := fun _ => True) ?hr ?hp (fun _ hk => hk) trivial (Below.refl _ _) (Nat.le_refl _) (by simp) ?_; (case hd => rfl); (case hg => rfl); (case hr => first | (go_simp; done) | (go_simp; rfl)); (case hp => exact (Reps.one rfl (Reps.none _ _))); intro vl_ wl_ ho_ hb_ hg_ hn_; clear hg_ hn_; replace HS := A0_ (Sp.made' HS.out hb_ ho_); clear ho_ hb_; obtain ⟨Aone, cone, ev_⟩ := Sp.slice HS.out (i := 0) rfl; subst ev_; clear hx)
        | ((with_reducible refine gate_builtin (b := .append) (xs := #[.tmp 146, .tmp 150]) rfl ?_); at_builtin; obtain ⟨fp_, ho_, hf_, hc_⟩ := Sp.row HS.out (i := 2) rfl; refine Kd.R_append_rows kSl (w0 := w0) w0.heap.size rfl (.tmp 146) (.tmp 150) 24 35 ((.slice none 0 0)) 24 rfl Try.underlying24 info35 rfl (by decide) (by omega) (.slice (some ad) PS.length c) ((QS.map Prod.fst)) (([(Aq, oq.length, cq)] : List Sl)) _ _ _ _ (fun _ => False) rfl rfl ho_ ((Sp.reads HS.out (i := 0) rfl).2.2) (fun _ _ h => h) (fun _ h => h.elim) (fun _ h => Or.inr h) HS.out.below HS.out.below.size ?aL ?_; (case aL => (have := HPN.out; have := HQL.out; simp only [List.length_cons, List.length_nil, List.length_map]; omega)); intro va_ wa_ ho hb hg hat; replace HS := A0_ (hc_ _ _ _ ho hg); clear ho hb hg hat hc_ hf_ ho_ fp_; obtain ⟨AP1, cP1, ev_⟩ := Sp.slice HS.out (i := 2) rfl; subst ev_)
        | ((with_reducible refine gate_store (t := 26) (p := 2) rfl ?_); refine store_event rfl rfl rfl (exec_store (v := .pointer (some ⟨gr, 0, none⟩)) (u := (.agg #[.slice AP1 (QS.map Prod.fst ++ ([(Aq, oq.length, cq)] : List Sl)).length cP1])) rfl ?hp ?hx (Sp.blkStore HS.out (i := 4) rfl ((.agg #[.slice AP1 (QS.map Prod.fst ++ ([(Aq, oq.length, cq)] : List Sl)).length cP1])) (#[.slice AP1 (QS.map Prod.fst ++ ([(Aq, oq.length, cq)] : List Sl)).length cP1]) rfl rfl (by kernel_rfl) (by first | (simp; done) | (simp [Value.oneCell']; done) | (simp; exact ⟨rfl, rfl, rfl⟩)))) ?_; (case hp => first | rfl | (go_simp; done) | (go_simp; rfl)); (case hx => first | rfl | (go_simp; done) | (go_simp; rfl)); intro ws_ hw_; have HS_ := A0_ (Sp.blkAll HS.out (i := 4) rfl (#[.slice AP1 (QS.map Prod.fst ++ ([(Aq, oq.length, cq)] : List Sl)).length cP1]) rfl); rw [← hw_] at HS_; clear HS hw_; have HS := HS_; clear HS_))
       (try simp only [Exit.inBlock, Exit.then]); refine bodyPost_ret (results_cell_row rfl _ _ gr 26 #[.slice AP1 (QS.map Prod.fst ++ ([(Aq, oq.length, cq)] : List Sl)).length cP1] (0, 0) _ rfl (Sp.blk HS.out (i := 4) rfl).1 Try.underlying26 rfl (by kernel_rfl)) rfl ?_
       have hcap2 := (Sp.reads HS.out (i := 2) rfl).2.1
       have hl : (QS ++ [((Aq, oq.length, cq), oq)]).length = PS.length + 1 := by rw [List.length_append, HQL.out]; rfl
       have hl2 : (QS.map Prod.fst ++ ([(Aq, oq.length, cq)] : List Sl)).length = PS.length + 1 := by rw [List.length_append, List.length_map, HQL.out]; rfl
       replace HS := A0_ (Sp.arr (pre := [Res.row kSl 35 w0.heap.size (.slice Aone (([(Aq, oq.length, cq)] : List Sl)).length cone) ([(Aq, oq.length, cq)] : List Sl), srcR w0 gs code p9 s9, Res.row kSl 35 w0.heap.size (.slice AP1 (((QS.map Prod.fst) ++ ([(Aq, oq.length, cq)] : List Sl))).length cP1) ((QS.map Prod.fst) ++ ([(Aq, oq.length, cq)] : List Sl)), Res.poolG kC 94 w0.heap.size L, Res.blk gr #[.slice AP1 (QS.map Prod.fst ++ ([(Aq, oq.length, cq)] : List Sl)).length cP1] 26]) (pre' := [srcR w0 gs code p9 s9, Res.row kSl 35 w0.heap.size (.slice AP1 (((QS.map Prod.fst) ++ ([(Aq, oq.length, cq)] : List Sl))).length cP1) ((QS.map Prod.fst) ++ ([(Aq, oq.length, cq)] : List Sl)), Res.poolG kC 94 w0.heap.size L, Res.blk gr #[.slice AP1 (QS.map Prod.fst ++ ([(Aq, oq.length, cq)] : List Sl)).length cP1] 26, Res.row kSl 35 w0.heap.size (.slice Aone (([(Aq, oq.length, cq)] : List Sl)).length cone) ([(Aq, oq.length, cq)] : List Sl)]) (rest := rest) [1, 2, 3, 4, 0] HS.out rfl rfl)
       replace HS := A0_ ((show Sp w0 ([srcR w0 gs code p9 s9, Res.row kSl 35 w0.heap.size (.slice AP1 (((QS.map Prod.fst) ++ ([(Aq, oq.length, cq)] : List Sl))).length cP1) ((QS.map Prod.fst) ++ ([(Aq, oq.length, cq)] : List Sl)), Res.poolG kC 94 w0.heap.size L, Res.blk gr #[.slice AP1 (QS.map Prod.fst ++ ([(Aq, oq.length, cq)] : List Sl)).length cP1] 26] ++ rest) _ from Sp.out (HS.out) 4))
       exact ⟨AP1, cP1, QS ++ [((Aq, oq.length, cq), oq)], _, _, by rw [hl, hl2], HSR.out, ⟨by rw [hl]; have := HPN.out; omega, fun q hq => by
        rcases List.mem_append.1 hq with hq | hq
        ·have := HQ1.out q hq; omega
        ·obtain rfl := List.mem_singleton.1 hq
         have := HQ2.out; show oq.length ≤ 64; omega⟩, by rw [hl, ← hl2]; exact hcap2, Sp.drEnd HS.out (by rw [List.take_of_length_le (by rw [hl, hl2]; exact Nat.le_refl _), List.map_append]; rfl) (by rw [hl, hl2]; exact Nat.le_refl _) (fun q hq => by
        rcases List.mem_append.1 hq with hq | hq
        ·exact HQS.out q hq
        ·obtain rfl := List.mem_singleton.1 hq
         exact HQM.out)⟩
      ·subst h1_
       obtain ⟨ad, e_⟩ := Sp.some_ HS.out (i := 1) rfl (by have := HPN.out; omega)
       subst e_
       obtain ⟨⟨⟨Aq, nq, cq⟩, oq⟩, hq_⟩ : ∃ q, q = QS.getD 0 default := ⟨_, rfl⟩
       have hkq : 0 < QS.length := by have := HQL.out; have := HPN.out; omega
       have hqm : ((Aq, nq, cq), oq) ∈ QS := by rw [hq_, List.getD_eq_getElem?_getD, List.getElem?_eq_getElem hkq]; exact List.getElem_mem hkq
       have HQK := A0_ (show (QS.map Prod.fst).getD 0 (none, 0, 0) = (Aq, nq, cq) by rw [List.getD_eq_getElem?_getD, List.getElem?_map, List.getElem?_eq_getElem hkq]; rw [List.getD_eq_getElem?_getD, List.getElem?_eq_getElem hkq] at hq_; simp only [Option.map_some, Option.getD_some] at hq_ ⊢; rw [← hq_])
       have HQN := A0_ hqm
       have HQM := A0_ (HQS.out _ hqm)
       have HQ2 := A0_ (show 1 ≤ oq.length ∧ oq.length ≤ 15 by have h_ : 1 ≤ oq.length ∧ oq.length + n ≤ 15 := HQ1.out _ hqm; omega)
       have hnq := (Sp.poolGC HS.out (i := 2) rfl HQM.out).1
       replace hnq : nq = oq.length := hnq
       subst hnq
       have h0q : (0 < PS.length) = True := eq_true (by have := HPN.out; omega)
       have h0r : ((0 : Int) < (PS.length : Int)) = True := eq_true (by have := HPN.out; omega)
       have HKQ := A0_ (show 0 < PS.length by have := HPN.out; omega)
       have HCC := A0_ (show PS.length ≤ c by have := HCAP.out; omega)
       clear hkq hqm hq_
       go_wp2
       replace HS := A0_ (Sp.drew HS.out)
       refine start_ (n := 11) (S := fun w' => w'.cell? ad = some (.slice Aq oq.length cq)) (ds := [10]) #[false, false, false, false, false, false, false, false, false, false, false] (by kernel_rfl) rfl rfl (Sp.slCell0V HS.out (i := 1) rfl HKQ.out HQK.out) (fun hHeld => ?_)
       refine with_tabW drwF.tab30 drwF.bits30 (fun HT_ HW_ => ?_)
       generalize w7.drew = wD30_ at HS hHeld ⊢
       refine on_ 0 (some 154) ?_
       refine on_ 1 (some 155) ?_
       refine on_ 2 (some 156) ?_
       refine tk_ 3 (some 157) ?_
       refine on_ 4 (some 158) ?_
       refine o1_ 5 (some 159) (fun K hK => ?_)
       refine gs_ Try.func57 #[.pointer (some ⟨gs, 0, none⟩), .int .i64 4] ?_
       refine (next_at HOK.out HSR.out 4 (i := 0) rfl _ HS.out).mono ?_
       rintro e wA11 ⟨rm, pA11, sA11, rfl, hr_, hS1, hs_⟩
       refine ⟨_, rfl, ?_⟩
       clear HSR
       have HSR := A0_ hS1
       replace HS := A0_ (hs_)
       clear hs_ hS1 hr_
       obtain ⟨KM, hKM⟩ := (smove_ev oq ⟨wrap64 (5 + rm), 0, 0⟩ (by have := HQ2.out; omega)).rounds
       obtain ⟨m, hm⟩ : ∃ m, m = oq.map fun c => addC c (⟨wrap64 (5 + rm), 0, 0⟩ : Cb) := ⟨_, rfl⟩
       rw [← hm] at hKM
       have HKM := A0_ hKM
       have HNL := A0_ (show m.length = oq.length by rw [hm, List.length_map])
       have HNL2 := A0_ HQ2.out.2
       clear hm hKM
       refine hK.out _ _ (Sp.slCell0V HS.out (i := 1) rfl HKQ.out HQK.out) (fun hHeld => ?_)
       clear hK K
       refine nm_ (some 159) ?_
       refine on_ 6 (some 160) ?_
       refine on_ 7 (some 161) ?_
       refine o1_ 8 (some 162) (fun K hK => ?_)
       refine gs_ Try.func93 #[.slice Aq oq.length cq, .agg #[.int .i64 (wrap64 (5 + rm)), .int .i64 0, .int .i64 0]] ?_
       refine (spec_l09Move.calls KM Aq cq oq (wrap64 (5 + rm)) 0 0 m _ (Sp.poolGC HS.out (i := 2) rfl HQM.out).2.2 (Sp.poolGC HS.out (i := 2) rfl HQM.out).2.1 HKM.out).mono ?_
       rintro e wA12 ⟨vA12, rfl, ho, hb⟩
       refine ⟨_, rfl, ?_⟩
       replace HS := A0_ (Sp.made' HS.out hb ho)
       clear hb ho
       obtain ⟨AA12, cA12, e_⟩ := Sp.slice HS.out (i := 0) rfl
       subst e_
       refine hK.out _ _ (Sp.slCell0V HS.out (i := 2) rfl HKQ.out HQK.out) (fun hHeld => ?_)
       clear hK K
       refine nm_ (some 162) ?_
       refine on_ 9 (some 163) ?_
       refine ol_ 10 none (fun K hK => ?_)
       obtain ⟨wT13, hr_, hs_⟩ := Sp.slStore HS.out (i := 2) rfl 0 HKQ.out (AA12, m.length, cA12)
       refine skip_ (w1 := wT13) (by rfl) rfl (exec_store (v := .pointer (some ad)) (u := .slice AA12 m.length cA12) rfl (by first | rfl | (go_simp; done) | (go_simp; rfl)) (by first | rfl | (go_simp; done) | (go_simp; rfl)) (by first | exact hr_ | simpa using hr_)) ?_
       clear hr_ HS
       have HS := A0_ hs_
       clear hs_
       refine hK.out _ _ ?_
       clear hK K
       refine dn_ ?_
       go_wp2_with (first
        | ((with_reducible refine gate_store (t := 26) (p := 2) rfl ?_); refine store_event rfl rfl rfl (exec_store (v := .pointer (some ⟨gr, 0, none⟩)) (u := (.agg #[.slice (some ad) PS.length c])) rfl ?hp ?hx (Sp.blkStore HS.out (i := 4) rfl ((.agg #[.slice (some ad) PS.length c])) (#[.slice (some ad) PS.length c]) rfl rfl (by kernel_rfl) (by first | (simp; done) | (simp [Value.oneCell']; done) | (simp; exact ⟨rfl, rfl, rfl⟩)))) ?_; (case hp => first | rfl | (go_simp; done) | (go_simp; rfl)); (case hx => first | rfl | (go_simp; done) | (go_simp; rfl)); intro ws_ hw_; have HS_ := A0_ (Sp.blkAll HS.out (i := 4) rfl (#[.slice (some ad) PS.length c]) rfl); rw [← hw_] at HS_; clear HS hw_; have HS := HS_; clear HS_))
       (try simp only [Exit.inBlock, Exit.then]); refine bodyPost_ret (results_cell_row rfl _ _ gr 26 #[.slice (some ad) PS.length c] (0, 0) _ rfl (Sp.blk HS.out (i := 4) rfl).1 Try.underlying26 rfl (by kernel_rfl)) rfl ?_
       have := HNL2.out
       replace HS := A0_ (Sp.arr (pre := [Res.row kC 94 w0.heap.size (.slice AA12 m.length cA12) m, srcR w0 gs code pA11 sA11, Res.row kSl 35 w0.heap.size (.slice (some ad) PS.length c) ((QS.map Prod.fst).set 0 (AA12, m.length, cA12)), Res.poolG kC 94 w0.heap.size L, Res.blk gr #[.slice (some ad) PS.length c] 26]) (pre' := [Res.row kC 94 w0.heap.size (.slice AA12 m.length cA12) m, Res.poolG kC 94 w0.heap.size L, srcR w0 gs code pA11 sA11, Res.row kSl 35 w0.heap.size (.slice (some ad) PS.length c) ((QS.map Prod.fst).set 0 (AA12, m.length, cA12)), Res.blk gr #[.slice (some ad) PS.length c] 26]) (rest := rest) [0, 3, 1, 2, 4] HS.out rfl rfl)
       replace HS := A0_ (Sp.poolGAdd HS.out)
       replace HS := A0_ (Sp.arr (pre := [Res.poolG kC 94 w0.heap.size (L ++ [((AA12, m.length, cA12), m)]), srcR w0 gs code pA11 sA11, Res.row kSl 35 w0.heap.size (.slice (some ad) PS.length c) ((QS.map Prod.fst).set 0 (AA12, m.length, cA12)), Res.blk gr #[.slice (some ad) PS.length c] 26]) (pre' := [srcR w0 gs code pA11 sA11, Res.row kSl 35 w0.heap.size (.slice (some ad) PS.length c) ((QS.map Prod.fst).set 0 (AA12, m.length, cA12)), Res.poolG kC 94 w0.heap.size (L ++ [((AA12, m.length, cA12), m)]), Res.blk gr #[.slice (some ad) PS.length c] 26]) (rest := rest) [1, 2, 0, 3] HS.out rfl rfl)
       have hl : (QS.set 0 ((AA12, m.length, cA12), m)).length = PS.length := by rw [List.length_set, HQL.out]
       have hl2 : (QS.set 0 ((AA12, m.length, cA12), m)).map Prod.fst = ((QS.map Prod.fst).set 0 (AA12, m.length, cA12)) := map_fst_set _ _ _
       exact ⟨some ad, c, QS.set 0 ((AA12, m.length, cA12), m), by rw [hl], pA11, sA11, HSR.out, ⟨by rw [hl]; have := HPN.out; omega, fun q hq => by
        rcases List.mem_or_eq_of_mem_set hq with h | rfl
        ·have := HQ1.out q h; omega
        ·have := HNL.out; show m.length ≤ 64; omega⟩, by rw [hl]; exact HCC.out, Sp.drEnd HS.out (by rw [map_fst_set]; exact (List.take_of_length_le (by rw [List.length_set, List.length_set, List.length_map]; exact Nat.le_refl _)).symm) (by rw [List.length_set, List.length_set, List.length_map]; exact Nat.le_refl _) (fun q hq => by
        rcases List.mem_or_eq_of_mem_set hq with h | rfl
        ·exact List.mem_append_left _ (HQS.out q h)
        ·exact List.mem_append_right _ List.mem_cons_self)⟩
      ·subst h1_
       have h1c : (1 ≤ c) = True := eq_true (by have := HCAP.out; have := HPN.out; omega)
       have h1d : 1 ≤ c := (by have := HCAP.out; have := HPN.out; omega)
       go_wp2_with (first
        | ((with_reducible refine gate_store (t := 26) (p := 2) rfl ?_); refine store_event rfl rfl rfl (exec_store (v := .pointer (some ⟨gr, 0, none⟩)) (u := (.agg #[.slice A 1 c])) rfl ?hp ?hx (Sp.blkStore HS.out (i := 3) rfl ((.agg #[.slice A 1 c])) (#[.slice A 1 c]) rfl rfl (by kernel_rfl) (by first | (simp; done) | (simp [Value.oneCell']; done) | (simp; exact ⟨rfl, rfl, rfl⟩)))) ?_; (case hp => first | rfl | (go_simp; done) | (go_simp; rfl)); (case hx => first | rfl | (go_simp; done) | (go_simp; rfl)); intro ws_ hw_; have HS_ := A0_ (Sp.blkAll HS.out (i := 3) rfl (#[.slice A 1 c]) rfl); rw [← hw_] at HS_; clear HS hw_; have HS := HS_; clear HS_))
       (try simp only [Exit.inBlock, Exit.then]); refine bodyPost_ret (results_cell_row rfl _ _ gr 26 #[.slice A 1 c] (0, 0) _ rfl (Sp.blk HS.out (i := 3) rfl).1 Try.underlying26 rfl (by kernel_rfl)) rfl ?_
       have hl : (QS.take 1).length = 1 := by rw [List.length_take]; have := HPN.out; have := HQL.out; omega
       exact ⟨A, c, QS.take 1, _, _, by rw [hl], HSR.out, ⟨by rw [hl]; omega, fun q hq => by have := HQ1.out q (List.mem_of_mem_take hq); omega⟩, by rw [hl]; have := HCAP.out; have := HPN.out; omega, Sp.drEnd HS.out (by rw [List.map_take, hl]) (by rw [hl, List.length_map, HQL.out]; exact HPN.out.1) (fun q hq => HQS.out q (List.mem_of_mem_take hq))⟩
      ·subst h1_
       obtain ⟨ad, e_⟩ := Sp.some_ HS.out (i := 1) rfl (by have := HPN.out; omega)
       subst e_
       obtain ⟨⟨⟨Aq, nq, cq⟩, oq⟩, hq_⟩ : ∃ q, q = QS.getD 0 default := ⟨_, rfl⟩
       have hkq : 0 < QS.length := by have := HQL.out; have := HPN.out; omega
       have hqm : ((Aq, nq, cq), oq) ∈ QS := by rw [hq_, List.getD_eq_getElem?_getD, List.getElem?_eq_getElem hkq]; exact List.getElem_mem hkq
       have HQK := A0_ (show (QS.map Prod.fst).getD 0 (none, 0, 0) = (Aq, nq, cq) by rw [List.getD_eq_getElem?_getD, List.getElem?_map, List.getElem?_eq_getElem hkq]; rw [List.getD_eq_getElem?_getD, List.getElem?_eq_getElem hkq] at hq_; simp only [Option.map_some, Option.getD_some] at hq_ ⊢; rw [← hq_])
       have HQN := A0_ hqm
       have HQM := A0_ (HQS.out _ hqm)
       have HQ2 := A0_ (show 1 ≤ oq.length ∧ oq.length ≤ 15 by have h_ : 1 ≤ oq.length ∧ oq.length + n ≤ 15 := HQ1.out _ hqm; omega)
       have hnq := (Sp.poolGC HS.out (i := 2) rfl HQM.out).1
       replace hnq : nq = oq.length := hnq
       subst hnq
       have h0q : (0 < PS.length) = True := eq_true (by have := HPN.out; omega)
       have h0r : ((0 : Int) < (PS.length : Int)) = True := eq_true (by have := HPN.out; omega)
       have HKQ := A0_ (show 0 < PS.length by have := HPN.out; omega)
       have HCC := A0_ (show PS.length ≤ c by have := HCAP.out; omega)
       clear hkq hqm hq_
       have HNL := A0_ (show ((([] : List Cb) ++ oq) ++ ([⟨7, 7, 7⟩] : List Cb)).length = oq.length + 1 by simp only [List.length_append, List.length_cons, List.length_nil]; omega)
       have HNL2 := A0_ HQ2.out.2
       go_wp2_with (first
        | ((with_reducible refine gate_dst (N := 171) rfl ?_); refine Kd.R_lit kC _ 94 ?hg (N := 171) ?hd (xs := ([] : List Cb)) (inner := []) (ok := fun _ => True) (okp := fun _ => True) ?hr ?hp (fun _ hk => hk) trivial (Below.refl _ _) (Nat.le_refl _) (by simp) ?_; (case hd => rfl); (case hg => rfl); (case hr => first | (go_simp; done) | (go_simp; rfl)); (case hp => exact (Reps.none _ _)); intro vl_ wl_ ho_ hb_ hg_ hn_; clear hg_ hn_; replace HS := A0_ (Sp.made' HS.out hb_ ho_); clear ho_ hb_; obtain ⟨Aown, cown, ev_⟩ := Sp.slice HS.out (i := 0) rfl; subst ev_; have hx : wl_.cell? ad = some (.slice Aq oq.length cq) := (show _ from Sp.slCell0V HS.out (i := 2) rfl HKQ.out HQK.out))
        | ((with_reducible refine gate_builtin (b := .append) (xs := #[.tmp 171, .tmp 174]) rfl ?_); at_builtin; obtain ⟨fp_, ho_, hf_, hc_⟩ := Sp.row HS.out (i := 0) rfl; refine Kd.R_append_rows kC (w0 := w0) w0.heap.size rfl (.tmp 171) (.tmp 174) 35 94 ((.agg #[(.int .i64 0), (.int .i64 0), (.int .i64 0)])) 24 rfl Try.underlying35 info94 rfl (by decide) (by omega) (.slice Aown (([] : List Cb)).length cown) (([] : List Cb)) (oq) _ _ _ _ (fun _ => False) rfl rfl ho_ ((Sp.poolGC HS.out (i := 3) rfl HQM.out).2.2) (fun _ _ h => h) (fun _ h => h.elim) (fun _ h => Or.inr h) HS.out.below HS.out.below.size ?aL ?_; (case aL => (have := HQ2.out; simp only [List.length_cons, List.length_nil]; omega)); intro va_ wa_ ho hb hg hat; replace HS := A0_ (hc_ _ _ _ ho hg); clear ho hb hg hat hc_ hf_ ho_ fp_; obtain ⟨AP1, cP1, ev_⟩ := Sp.slice HS.out (i := 0) rfl; subst ev_; clear hx)
        | ((with_reducible refine gate_dst (N := 177) rfl ?_); refine Kd.R_lit kC _ 94 ?hg (N := 177) ?hd (xs := ([⟨7, 7, 7⟩] : List Cb)) (inner := [.int .i64 7, .int .i64 7, .int .i64 7]) (ok := fun _ => True) (okp := fun _ => True) ?hr ?hp (fun _ hk => hk) trivial (Below.refl _ _) (Nat.le_refl _) (by simp) ?_; (case hd => rfl); (case hg => rfl); (case hr => first | (go_simp; done) | (go_simp; rfl)); (case hp => exact (Reps.c3 (reps1C _ _ _ ⟨7, 7, 7⟩) (Reps.none _ _))); intro vl_ wl_ ho_ hb_ hg_ hn_; clear hg_ hn_; replace HS := A0_ (Sp.made' HS.out hb_ ho_); clear ho_ hb_; obtain ⟨Aone, cone, ev_⟩ := Sp.slice HS.out (i := 0) rfl; subst ev_)
        | ((with_reducible refine gate_builtin (b := .append) (xs := #[.tmp 175, .tmp 177]) rfl ?_); at_builtin; obtain ⟨fp_, ho_, hf_, hc_⟩ := Sp.row HS.out (i := 1) rfl; refine Kd.R_append_rows kC (w0 := w0) w0.heap.size rfl (.tmp 175) (.tmp 177) 35 94 ((.agg #[(.int .i64 0), (.int .i64 0), (.int .i64 0)])) 24 rfl Try.underlying35 info94 rfl (by decide) (by omega) (.slice AP1 ((([] : List Cb) ++ oq)).length cP1) ((([] : List Cb) ++ oq)) (([⟨7, 7, 7⟩] : List Cb)) _ _ _ _ (fun _ => False) rfl rfl ho_ ((Sp.reads HS.out (i := 0) rfl).2.2) (fun _ _ h => h) (fun _ h => h.elim) (fun _ h => Or.inr h) HS.out.below HS.out.below.size ?aL ?_; (case aL => (have := HQ2.out; simp only [List.length_append, List.length_cons, List.length_nil]; omega)); intro va_ wa_ ho hb hg hat; replace HS := A0_ (hc_ _ _ _ ho hg); clear ho hb hg hat hc_ hf_ ho_ fp_; obtain ⟨AP2, cP2, ev_⟩ := Sp.slice HS.out (i := 1) rfl; subst ev_)
        | ((with_reducible refine gate_store (t := 35) (p := 179) rfl ?_); obtain ⟨w1_, hr_, hs_⟩ := Sp.slStore HS.out (i := 3) rfl 0 HKQ.out (AP2, (((([] : List Cb) ++ oq) ++ ([⟨7, 7, 7⟩] : List Cb))).length, cP2); refine store_event rfl rfl rfl (exec_store (v := .pointer (some ad)) (u := (.slice AP2 (((([] : List Cb) ++ oq) ++ ([⟨7, 7, 7⟩] : List Cb))).length cP2)) rfl ?hp ?hx (by first | exact hr_ | simpa using hr_)) ?_; (case hp => first | rfl | (go_simp; done) | (go_simp; rfl)); (case hx => first | rfl | (go_simp; done) | (go_simp; rfl)); intro ws_ hw_; rw [← hw_] at hs_; clear hr_ hw_ HS; have HS := A0_ hs_; clear hs_)
        | ((with_reducible refine gate_store (t := 26) (p := 2) rfl ?_); refine store_event rfl rfl rfl (exec_store (v := .pointer (some ⟨gr, 0, none⟩)) (u := (.agg #[.slice (some ad) PS.length c])) rfl ?hp ?hx (Sp.blkStore HS.out (i := 5) rfl ((.agg #[.slice (some ad) PS.length c])) (#[.slice (some ad) PS.length c]) rfl rfl (by kernel_rfl) (by first | (simp; done) | (simp [Value.oneCell']; done) | (simp; exact ⟨rfl, rfl, rfl⟩)))) ?_; (case hp => first | rfl | (go_simp; done) | (go_simp; rfl)); (case hx => first | rfl | (go_simp; done) | (go_simp; rfl)); intro ws_ hw_; have HS_ := A0_ (Sp.blkAll HS.out (i := 5) rfl (#[.slice (some ad) PS.length c]) rfl); rw [← hw_] at HS_; clear HS hw_; have HS := HS_; clear HS_))
       (try simp only [Exit.inBlock, Exit.then]); refine bodyPost_ret (results_cell_row rfl _ _ gr 26 #[.slice (some ad) PS.length c] (0, 0) _ rfl (Sp.blk HS.out (i := 5) rfl).1 Try.underlying26 rfl (by kernel_rfl)) rfl ?_
       have := HNL2.out
       replace HS := A0_ (Sp.arr (pre := [Res.row kC 94 w0.heap.size (.slice Aone (([⟨7, 7, 7⟩] : List Cb)).length cone) ([⟨7, 7, 7⟩] : List Cb), Res.row kC 94 w0.heap.size (.slice AP2 (((([] : List Cb) ++ oq) ++ ([⟨7, 7, 7⟩] : List Cb))).length cP2) ((([] : List Cb) ++ oq) ++ ([⟨7, 7, 7⟩] : List Cb)), srcR w0 gs code p9 s9, Res.row kSl 35 w0.heap.size (.slice (some ad) PS.length c) ((QS.map Prod.fst).set 0 (AP2, (((([] : List Cb) ++ oq) ++ ([⟨7, 7, 7⟩] : List Cb))).length, cP2)), Res.poolG kC 94 w0.heap.size L, Res.blk gr #[.slice (some ad) PS.length c] 26]) (pre' := [Res.row kC 94 w0.heap.size (.slice AP2 (((([] : List Cb) ++ oq) ++ ([⟨7, 7, 7⟩] : List Cb))).length cP2) ((([] : List Cb) ++ oq) ++ ([⟨7, 7, 7⟩] : List Cb)), Res.poolG kC 94 w0.heap.size L, srcR w0 gs code p9 s9, Res.row kSl 35 w0.heap.size (.slice (some ad) PS.length c) ((QS.map Prod.fst).set 0 (AP2, (((([] : List Cb) ++ oq) ++ ([⟨7, 7, 7⟩] : List Cb))).length, cP2)), Res.blk gr #[.slice (some ad) PS.length c] 26, Res.row kC 94 w0.heap.size (.slice Aone (([⟨7, 7, 7⟩] : List Cb)).length cone) ([⟨7, 7, 7⟩] : List Cb)]) (rest := rest) [1, 4, 2, 3, 5, 0] HS.out rfl rfl)
       replace HS := A0_ (Sp.poolGAdd HS.out)
       replace HS := A0_ (Sp.arr (pre := [Res.poolG kC 94 w0.heap.size (L ++ [((AP2, ((([] : List Cb) ++ oq) ++ ([⟨7, 7, 7⟩] : List Cb)).length, cP2), (([] : List Cb) ++ oq) ++ ([⟨7, 7, 7⟩] : List Cb))]), srcR w0 gs code p9 s9, Res.row kSl 35 w0.heap.size (.slice (some ad) PS.length c) ((QS.map Prod.fst).set 0 (AP2, (((([] : List Cb) ++ oq) ++ ([⟨7, 7, 7⟩] : List Cb))).length, cP2)), Res.blk gr #[.slice (some ad) PS.length c] 26, Res.row kC 94 w0.heap.size (.slice Aone (([⟨7, 7, 7⟩] : List Cb)).length cone) ([⟨7, 7, 7⟩] : List Cb)]) (pre' := [srcR w0 gs code p9 s9, Res.row kSl 35 w0.heap.size (.slice (some ad) PS.length c) ((QS.map Prod.fst).set 0 (AP2, (((([] : List Cb) ++ oq) ++ ([⟨7, 7, 7⟩] : List Cb))).length, cP2)), Res.poolG kC 94 w0.heap.size (L ++ [((AP2, ((([] : List Cb) ++ oq) ++ ([⟨7, 7, 7⟩] : List Cb)).length, cP2), (([] : List Cb) ++ oq) ++ ([⟨7, 7, 7⟩] : List Cb))]), Res.blk gr #[.slice (some ad) PS.length c] 26, Res.row kC 94 w0.heap.size (.slice Aone (([⟨7, 7, 7⟩] : List Cb)).length cone) ([⟨7, 7, 7⟩] : List Cb)]) (rest := rest) [1, 2, 0, 3, 4] HS.out rfl rfl)
       replace HS := A0_ ((show Sp w0 ([srcR w0 gs code p9 s9, Res.row kSl 35 w0.heap.size (.slice (some ad) PS.length c) ((QS.map Prod.fst).set 0 (AP2, (((([] : List Cb) ++ oq) ++ ([⟨7, 7, 7⟩] : List Cb))).length, cP2)), Res.poolG kC 94 w0.heap.size (L ++ [((AP2, ((([] : List Cb) ++ oq) ++ ([⟨7, 7, 7⟩] : List Cb)).length, cP2), (([] : List Cb) ++ oq) ++ ([⟨7, 7, 7⟩] : List Cb))]), Res.blk gr #[.slice (some ad) PS.length c] 26] ++ rest) _ from Sp.out (HS.out) 4))
       have hl : (QS.set 0 ((AP2, ((([] : List Cb) ++ oq) ++ ([⟨7, 7, 7⟩] : List Cb)).length, cP2), (([] : List Cb) ++ oq) ++ ([⟨7, 7, 7⟩] : List Cb))).length = PS.length := by rw [List.length_set, HQL.out]
       exact ⟨some ad, c, QS.set 0 ((AP2, ((([] : List Cb) ++ oq) ++ ([⟨7, 7, 7⟩] : List Cb)).length, cP2), (([] : List Cb) ++ oq) ++ ([⟨7, 7, 7⟩] : List Cb)), _, _, by rw [hl], HSR.out, ⟨by rw [hl]; have := HPN.out; omega, fun q hq => by
        rcases List.mem_or_eq_of_mem_set hq with h | rfl
        ·have := HQ1.out q h; omega
        ·have := HNL.out; show ((([] : List Cb) ++ oq) ++ ([⟨7, 7, 7⟩] : List Cb)).length ≤ 64; omega⟩, by rw [hl]; exact HCC.out, Sp.drEnd HS.out (by rw [map_fst_set]; exact (List.take_of_length_le (by rw [List.length_set, List.length_set, List.length_map]; exact Nat.le_refl _)).symm) (by rw [List.length_set, List.length_set, List.length_map]; exact Nat.le_refl _) (fun q hq => by
        rcases List.mem_or_eq_of_mem_set hq with h | rfl
        ·exact List.mem_append_left _ (HQS.out q h)
        ·exact List.mem_append_right _ List.mem_cons_self)⟩
      ·go_wp2_with (first
        | ((with_reducible refine gate_store (t := 26) (p := 2) rfl ?_); refine store_event rfl rfl rfl (exec_store (v := .pointer (some ⟨gr, 0, none⟩)) (u := (.agg #[.slice A PS.length c])) rfl ?hp ?hx (Sp.blkStore HS.out (i := 3) rfl ((.agg #[.slice A PS.length c])) (#[.slice A PS.length c]) rfl rfl (by kernel_rfl) (by first | (simp; done) | (simp [Value.oneCell']; done) | (simp; exact ⟨rfl, rfl, rfl⟩)))) ?_; (case hp => first | rfl | (go_simp; done) | (go_simp; rfl)); (case hx => first | rfl | (go_simp; done) | (go_simp; rfl)); intro ws_ hw_; have HS_ := A0_ (Sp.blkAll HS.out (i := 3) rfl (#[.slice A PS.length c]) rfl); rw [← hw_] at HS_; clear HS hw_; have HS := HS_; clear HS_))
       (try simp only [Exit.inBlock, Exit.then]); refine bodyPost_ret (results_cell_row rfl _ _ gr 26 #[.slice A PS.length c] (0, 0) _ rfl (Sp.blk HS.out (i := 3) rfl).1 Try.underlying26 rfl (by kernel_rfl)) rfl ?_
       exact ⟨A, c, QS, _, _, by rw [HQL.out], HSR.out, ⟨by rw [HQL.out]; have := HPN.out; omega, fun q hq => by have := HQ1.out q hq; omega⟩, HCAP2.out, Sp.drEnd HS.out (by rw [List.take_of_length_le (by rw [List.length_map]; exact Nat.le_refl _)]) (by rw [List.length_map]; exact Nat.le_refl _) HQS.out⟩
end Go.Proofs.Ytcobnlilmihjfaa.A


namespace Go.Proofs.Ytcobnlilmihjfaa.A
open Go.RowKit Go.Proofs.YtcobnlilmihjfaaW.PrintWords Go.Proofs.YtcobnlilmihjfaaW.PrintLast Go.Proofs.YtcobnlilmihjfaaW.PrintMore
set_option linter.unusedVariables false
set_option linter.unusedSimpArgs false
section
attribute [local go_sem] max2_int min2_int max_two min_two max_three min_three max_four min_four
def slices_Reverse_int64_int64.l0 : Nat → List Int → Int → Int → Option (List Int)
  | 0, _, _, _ => none
  | k + 1, x0, x2, x3 => if x2 < x3 then (if 0 ≤ x3 then (if x3 < (x0.length : Int) then (if 0 ≤ x2 then (if x2 < (x0.length : Int) then (slices_Reverse_int64_int64.l0 k ((x0.set (x2 : Int).toNat (rd x0 x3)).set (x3 : Int).toNat (rd x0 x2)) (wrap64 (x2 + 1)) (wrap64 (x3 - 1))) else (none)) else (none)) else (none)) else (none)) else (some x0)
def slices_Reverse_int64_int64.f (k : Nat) (l0 : List Int) : Option (List Int) := slices_Reverse_int64_int64.l0 k l0 0 (wrap64 ((l0.length : Int) - 1))
def slices_Reverse_int64_int64.T3 : Bool × List (List Nat × List Nat) := (true, [([], []), ([], []), ([], []), ([], []), ([], []), ([], []), ([4, 5], [4, 5]), ([6], [6]), ([], []), ([], []), ([8, 9], [8, 9]), ([10], [10]), ([0, 1, 0, 1, 4, 5, 6, 7, 11], [0, 1]), ([12, 7, 0, 1, 4, 5, 6, 7, 11], [7, 12]), ([2, 3, 0, 1, 2, 3, 4, 5, 6, 7, 8, 9, 10, 11, 12, 13], [2, 3]), ([14, 11, 13, 0, 1, 2, 3, 4, 5, 6, 7, 8, 9, 10, 11, 12, 13], [11, 14])])
def slices_Reverse_int64_int64.B3 : List Nat := [0, 0, 0, 0, 0, 0, 48, 112, 0, 0, 768, 1792, 4083, 8179, 16383, 32767]
theorem slices_Reverse_int64_int64.tab3 : rtab .any (opsOf Try.f78 3) = slices_Reverse_int64_int64.T3 := by kernel_rfl
theorem slices_Reverse_int64_int64.bits3 : waitsOk slices_Reverse_int64_int64.T3.2 slices_Reverse_int64_int64.B3 = true := by kernel_rfl
set_option maxHeartbeats 8000000 in
set_option maxRecDepth 100000 in
theorem slices_Reverse_int64_int64.calls (k : Nat) (P0_ : Nat → Prop) (u9000_ : Value) (l0 : List Int) (r : List Int) (w0 w : World) (hB : Below w0.heap.size w0 w) (ho0 : Kd.R (Kd.int .i64) 2 w w0.heap.size P0_ u9000_ l0) (h : slices_Reverse_int64_int64.f k l0 = some r) :
    Calls Try.prog 78 #[u9000_] w fun e w' => e = .returned (.tuple #[]) ∧ Kd.R (Kd.int .i64) 2 w' w0.heap.size (fun k_ => (P0_ k_ ∨ w.heap.size ≤ k_)) u9000_ r ∧ Below w0.heap.size w0 w' ∧ Kept w w' (fun k_ => P0_ k_) := by
 have HO0 := A0_ (show Kd.R (Kd.int .i64) 2 w w0.heap.size (fun k_ => (P0_ k_ ∨ w.heap.size ≤ k_)) u9000_ l0 from Kd.R_mono ho0 (fun k_ hk => (.inl hk)))
 have HK := A0_ (Kept.refl w (fun k_ => P0_ k_))
 (have HW0 := A0_ hB.size); (have HB := A0_ hB); clear hB; (have H : (slices_Reverse_int64_int64.l0 k l0 0 (wrap64 ((l0.length : Int) - 1))) = some r := h); clear h; (have H' := A0_ H); clear H; (obtain ⟨Ao2, co2, eo2⟩ := Kd.R_slice HO0.out); subst eo2; (go_enter Try.func78, Try.ntmps78); go_wp2
 go_loopg [2, 3] k (fun kq v2 v3 w' => ∃ (x0_1 : List Int) (x2_1 : Int) (x3_1 : Int), v2 = .int .i64 x2_1 ∧ v3 = .int .i64 x3_1 ∧ Aside0 (slices_Reverse_int64_int64.l0 kq x0_1 x2_1 x3_1 = some r) ∧ Aside0 (kq ≤ k) ∧ Aside0 (Kd.R (Kd.int .i64) 2 w' w0.heap.size (fun k_ => (P0_ k_ ∨ w.heap.size ≤ k_)) (.slice Ao2 l0.length co2) x0_1) ∧ Aside0 (Kept w w' (fun k_ => P0_ k_)) ∧ Aside0 (Below w0.heap.size w0 w'))
 case atStart => exact ⟨(l0), (0), (wrap64 ((l0.length : Int) - 1)), (by first | rfl | (simp; done) | (simp [*]; done)), (by first | rfl | (simp; done) | (simp [*]; done)), H', ⟨Nat.le_refl _⟩, ⟨by (with_reducible repeat (first | apply Ra_ | apply Rn_ | apply Rd_)); exact HO0.out⟩, ⟨by repeat (first | (with_reducible first | exact HK.out | apply Kept.alloc | apply Kept.drewN | apply Kept.drew) | exact HK.out)⟩, ⟨by repeat (first | (with_reducible first | exact HB.out | apply ba_ | apply bn_ | apply bd_) | exact HB.out)⟩⟩
 case round =>
  clear H'; (try clear p2); (obtain ⟨x0_1, x2_1, x3_1, rfl, rfl, HA, HK1, HO_0, HK, HB⟩ := hrel); (have hl0_1 := (Kd.R_reads' HO_0.out).1); (rw [hl0_1] at HO_0); ((try simp only [hl0_1]))
  cases gk with
  | zero => exact absurd HA.out (by simp [slices_Reverse_int64_int64.l0])
  | succ k1 =>
   (have H := HA.out); clear HA; (simp only [slices_Reverse_int64_int64.l0] at H); (by_cases c3 : x2_1 < x3_1)
   ·(rw [if_pos c3] at H); (have c3b0 : decide (x2_1 < x3_1) = true := decide_eq_true c3); clear c3; (by_cases c4 : 0 ≤ x3_1)
    ·(rw [if_pos c4] at H); (have c4b0 : decide (0 ≤ x3_1) = true := decide_eq_true c4); clear c4; (by_cases c5 : x3_1 < (x0_1.length : Int))
     ·(rw [if_pos c5] at H); (have c5b0 : decide (x3_1 < (x0_1.length : Int)) = true := decide_eq_true c5); clear c5; (by_cases c6 : 0 ≤ x2_1)
      ·(rw [if_pos c6] at H); (have c6b0 : decide (0 ≤ x2_1) = true := decide_eq_true c6); clear c6; (by_cases c7 : x2_1 < (x0_1.length : Int))
       ·(rw [if_pos c7] at H); (have c7b0 : decide (x2_1 < (x0_1.length : Int)) = true := decide_eq_true c7); clear c7; (obtain ⟨y365, hy365⟩ : ∃ y_ : List Int, y_ = (x0_1.set (x2_1 : Int).toNat (rd x0_1 x3_1)) := ⟨_, rfl⟩); (replace H : (slices_Reverse_int64_int64.l0 k1 (y365.set (x3_1 : Int).toNat (rd x0_1 x2_1)) (wrap64 (x2_1 + 1)) (wrap64 (x3_1 - 1))) = some r := by first | (rw [hy365]; with_reducible exact H) | (have H2_ := (Option.bind_some _ _).symm.trans H; rw [hy365]; with_reducible exact H2_) | (have H2_ := (Option.bind_some _ _).symm.trans H; with_reducible exact H2_) | with_reducible exact H | (rw [hy365]; exact H) | exact H); (have Ny365 := A0_ hy365); clear hy365; (obtain ⟨y366, hy366⟩ : ∃ y_ : List Int, y_ = (y365.set (x3_1 : Int).toNat (rd x0_1 x2_1)) := ⟨_, rfl⟩); (replace H : (slices_Reverse_int64_int64.l0 k1 y366 (wrap64 (x2_1 + 1)) (wrap64 (x3_1 - 1))) = some r := by first | (rw [hy366]; with_reducible exact H) | (have H2_ := (Option.bind_some _ _).symm.trans H; rw [hy366]; with_reducible exact H2_) | (have H2_ := (Option.bind_some _ _).symm.trans H; with_reducible exact H2_) | with_reducible exact H | (rw [hy366]; exact H) | exact H); (have Ny366 := A0_ hy366); clear hy366; (have H' := A0_ H); clear H; (try go_wp2); (have n0_ := A0_ (Kd.R_drew HO_0.out)); (have n1_ := A0_ (Kept.drew HK.out)); (have n2_ := A0_ (below_drew1 HB.out)); clear HO_0; clear HK; clear HB; (have HO_0 := n0_); (have HK := n1_); (have HB := n2_); clear n0_ n1_ n2_; (have p363 : 0 ≤ (x3_1 : Int) := of_decide_eq_true as_); (have q363 : x3_1 < (x0_1.length : Int) := of_decide_eq_true as_); (obtain ⟨ad363, e363, hx363_0⟩ := Kd.at_int (Kd.R_reads' HO_0.out).2.2 x3_1 p363 q363); (cases e363); (replace p363 := eq_true p363); (replace q363 := eq_true q363); (have p364 : 0 ≤ (x2_1 : Int) := of_decide_eq_true as_); (have q364 : x2_1 < (x0_1.length : Int) := of_decide_eq_true as_); (obtain ⟨ad364, e364, hx364_0⟩ := Kd.at_int (Kd.R_reads' HO_0.out).2.2 x2_1 p364 q364); (obtain rfl : ad363 = ad364 := (by injection e364)); (replace p364 := eq_true p364); (replace q364 := eq_true q364); (have p8 : 0 ≤ (x2_1 : Int) := of_decide_eq_true as_); (have q8 : (x2_1 : Int) < ((x0_1.length : Int) : Int) := of_decide_eq_true as_); (obtain ⟨go8, co8, eo8, gb8, gl8, cl8, HG8⟩ := Kd.R_form HO_0.out (by omega)); ((first | cases eo8 | (injection eo8 with ea_ en_ ec_; (first | subst ea_ | (injection ea_ with ea_; subst ea_)); subst ec_; clear en_))); (have GB8 := A0_ gb8); (have GG8 := A0_ HG8); clear gb8 gl8 HG8; (have HMgo8 := A0_ (show (P0_ go8 ∨ w.heap.size ≤ go8) from (HO_0.out.1 _ rfl))); ((first | simp only [add_plain] at hx363_0 | skip)); ((first | simp only [add_plain] at hx364_0 | skip)); (obtain ⟨hx8_0, hf8_0⟩ := Kd.R_celln 0 HO_0.out (x2_1 : Int) p8 q8); (replace p8 := eq_true p8); (replace q8 := eq_true q8); (have HP11 := Kd.R_putn HO_0.out (x2_1 : Int) (rd x0_1 x3_1)); (rw [← Ny365.out] at HP11); (have HQ11 := A0_ HP11); clear HP11; (have p9 : 0 ≤ (x3_1 : Int) := of_decide_eq_true as_); (have q9 : (x3_1 : Int) < ((x0_1.length : Int) : Int) := of_decide_eq_true as_); (obtain ⟨hx9_0, hf9_0⟩ := Kd.R_celln 0 HQ11.out (x3_1 : Int) p9 q9); (replace p9 := eq_true p9); (replace q9 := eq_true q9); (have HP12 := Kd.R_putn HQ11.out (x3_1 : Int) (rd x0_1 x2_1)); (rw [← Ny366.out] at HP12); (have HQ12 := A0_ HP12); clear HP12
        refine start_ (n := 16) (S := fun w' => w'.cell? ⟨go8, (x3_1).toNat, none⟩ = some (.int .i64 (rd x0_1 x3_1)) ∧ w'.cell? ⟨go8, (x2_1).toNat, none⟩ = some (.int .i64 (rd x0_1 x2_1))) (ds := [13, 15]) #[ff,ff,ff,ff,ff,ff,ff,ff,ff,ff,ff,ff,ff,ff,ff,ff] (by kernel_rfl) rfl rfl ⟨hx363_0, hx364_0⟩ (fun hHeld => ?_); refine with_tabW slices_Reverse_int64_int64.tab3 slices_Reverse_int64_int64.bits3 (fun HT_ HW_ => ?_)
        (generalize wr.drew = w10 at HO_0 HK HB GG8 HQ11 HQ12 hf8_0 hf9_0 hx363_0 hx364_0 hx8_0 hx9_0 hHeld ⊢); (refine on_ 0 (some 14) ?_); (refine on_ 1 (some 15) ?_); (refine on_ 2 (some 16) ?_); (refine on_ 3 (some 17) ?_); (refine on_ 4 (some 18) ?_); (refine on_ 5 (some 19) ?_); (refine on_ 6 (some 20) ?_); (refine on_ 8 (some 22) ?_); (refine on_ 9 (some 23) ?_); (refine on_ 10 (some 24) ?_); (refine tk_ 7 (some 21) ?_); (refine tk_ 11 (some 25) ?_); (refine on_ 12 (some 26) ?_)
        refine ol_ 13 (none) (fun K hK => ?_)
        (refine skip_ (w1 := ?_) (by rfl) rfl ?_ ?_); rotate_left
        ·go_simp; rfl
        (refine hK.out _ _ ?_); clear hK K; (refine on_ 14 (some 27) ?_)
        refine ol_ 15 (none) (fun K hK => ?_)
        (refine skip_ (w1 := ?_) (by rfl) rfl ?_ ?_); rotate_left
        ·go_simp; rfl
        (refine hK.out _ _ ?_); clear hK K; (refine dn_ ?_); (try go_wp2); ((try simp only [← hl0_1])); (go_roundg k1)
        case measure => have := HK1.out; omega
        case rel => exact ⟨(y366), (wrap64 (x2_1 + 1)), (wrap64 (x3_1 - 1)), (by first | rfl | (simp; done) | (simp [*]; done)), (by first | rfl | (simp; done) | (simp [*]; done)), H', ⟨by have := HK1.out; omega⟩, ⟨by (try simp only [hl0_1]); (with_reducible repeat (first | apply Ra_ | apply Rn_ | apply Rd_)); exact HQ12.out⟩, ⟨by repeat (first | (with_reducible first | exact HK.out | apply Kept.alloc | apply Kept.drewN | apply Kept.drew | refine Kept.setCell ?_ HMgo8.out _ | refine Kept.setCell ?_ HMgo8.out _) | exact HK.out)⟩, ⟨by repeat (first | (with_reducible first | exact HB.out | apply ba_ | apply bn_ | apply bd_ | refine below_set ?_ GB8.out | refine below_set ?_ GB8.out) | exact HB.out)⟩⟩
       ·(rw [if_neg c7] at H); (exact absurd H (by simp))
      ·(rw [if_neg c6] at H); (exact absurd H (by simp))
     ·(rw [if_neg c5] at H); (exact absurd H (by simp))
    ·(rw [if_neg c4] at H); (exact absurd H (by simp))
   ·(rw [if_neg c3] at H); (have c3b0 : decide (x2_1 < x3_1) = false := decide_eq_false c3); clear c3; (obtain rfl := Option.some.inj H); go_wp2; (first | go_end0 | ((try simp only [Exit.inBlock, Exit.then]); refine bodyPost_ret (results_none rfl _ _ _) rfl ?_)); (exact ⟨er_, (by first | exact (by (with_reducible repeat (first | apply Ra_ | apply Rn_ | apply Rd_)); exact HO_0.out) | (simp only [hl0_1]; exact (by (with_reducible repeat (first | apply Ra_ | apply Rn_ | apply Rd_)); exact HO_0.out))), by repeat (first | (with_reducible first | exact HB.out | apply ba_ | apply bn_ | apply bd_) | exact HB.out), by repeat (first | (with_reducible first | exact HK.out | apply Kept.alloc | apply Kept.drewN | apply Kept.drew) | exact HK.out)⟩)
end
end Go.Proofs.Ytcobnlilmihjfaa.A

namespace Go.Proofs.Ytcobnlilmihjfaa.A
open Go.RowKit Go.Proofs.YtcobnlilmihjfaaW.PrintWords Go.Proofs.YtcobnlilmihjfaaW.PrintLast Go.Proofs.YtcobnlilmihjfaaW.PrintMore
set_option linter.unusedVariables false
set_option linter.unusedSimpArgs false
def fexF.T9 : Bool × List (List Nat × List Nat) := (true, [([], []), ([], []), ([0, 1], [0, 1]), ([], []), ([3], [3]), ([4], [4]), ([2, 2, 0, 1, 2], [2]), ([5, 6, 0, 1, 2, 3, 4, 5, 6], [5]), ([7, 0, 1, 2, 3, 4, 5, 6, 7], [])])
def fexF.B9 : List Nat := [0, 0, 3, 0, 8, 24, 7, 127, 255]
theorem fexF.tab9 : rtab .any (opsOf Try.f9 9) = fexF.T9 := by kernel_rfl
theorem fexF.bits9 : waitsOk fexF.T9.2 fexF.B9 = true := by kernel_rfl
theorem leaves_ev (parts : List (List Cb)) (offs : List Cb) (hl : offs.length = parts.length) (h8 : parts.length ≤ 8) (hsz : ∀ p ∈ parts, p.length ≤ 1048576) (hp : ∀ p ∈ parts, ∀ c ∈ p, inCb c 0 7 = true) (ho : ∀ j : Nat, j < offs.length → inCb (oAt offs j) (-12) 12 = true) (p : Nat) (hpl : p < parts.length) (d : Int) (hd : 0 ≤ d ∧ d < 6) :
  Ev (fun k => spec_l27Leaves.f k parts offs (p : Int) d) (leavesP parts offs p d) := Ev.val fun k => by
 unfold spec_l27Leaves.f
 rw [if_pos ⟨⟨hl, h8⟩, hsz, hp, fun c hc => by
  obtain ⟨i, hi, rfl⟩ := List.mem_iff_getElem.1 hc
  have e : oAt offs i = offs[i] := by simp [oAt, List.getD_eq_getElem?_getD, hi]
  rw [← e]
  exact ho i hi, ⟨by omega, by omega⟩, hd⟩]
theorem free_ev (parts : List (List Cb)) (offs : List Cb) (hl : offs.length = parts.length) (h8 : parts.length ≤ 8) (hsz : ∀ p ∈ parts, p.length ≤ 1048576) (hp : ∀ p ∈ parts, ∀ c ∈ p, inCb c 0 7 = true) (ho : ∀ j : Nat, j < offs.length → inCb (oAt offs j) (-12) 12 = true) :
  Ev (fun k => spec_l27Free.f k parts offs) (freeP parts offs) := by
 obtain ⟨r, hr, hk⟩ : ∃ r, r = freeP parts offs ∧ Ev (fun k => spec_l27Free.l0 k offs [] 0 parts) r := by
  refine ev_inv0 (6 * parts.length) (fun (s : List Int) j => s = freeK parts offs j) (fun r => r = freeP parts offs) (fun s i k => spec_l27Free.l0 k offs s i parts) (fun s hI => ?_) (fun s j hj hI => ?_) [] rfl
  ·refine ⟨s, hI, Ev.step (f := fun _ => some s) (fun k => by simp only [spec_l27Free.l0]; rw [wrap_id (by omega) (by omega), if_neg (by omega)]) (Ev.now _)⟩
  ·have hw := wrap_succ j (by omega)
   have hsl : s.length < 17592186044416 := by
    rw [hI]
    have := freeK_len parts offs j
    omega
   have e1 : wrap64 ((j : Int).tdiv 6) = ((j / 6 : Nat) : Int) := by rw [show (j : Int).tdiv 6 = ((j / 6 : Nat) : Int) from rfl, wrap_id (by omega) (by omega)]
   have e2 : (j : Int).tmod 6 = ((j % 6 : Nat) : Int) := rfl
   have hle := leaves_ev parts offs hl h8 hsz hp ho (j / 6) (by omega) ((j % 6 : Nat) : Int) (by omega)
   have hst := freeK_succ parts offs j
   refine .inr ⟨freeK parts offs (j + 1), rfl, fun r h2 => ?_⟩
   refine Ev.step (f := fun k => (spec_l27Leaves.f k parts offs ((j / 6 : Nat) : Int) ((j % 6 : Nat) : Int)).bind fun t => if t = true then spec_l27Free.l0 k offs (s ++ [(j : Int)]) ((j + 1 : Nat) : Int) parts else spec_l27Free.l0 k offs s ((j + 1 : Nat) : Int) parts) (fun k => ?_) (Ev.bind hle ?_)
   ·simp only [spec_l27Free.l0, hw, e1, e2]
    rw [wrap_id (by omega) (by omega), if_pos (by omega)]
    simp only [hsl, if_true]
   ·cases hb : leavesP parts offs ((j / 6 : Nat) : Int) ((j % 6 : Nat) : Int) with
    | true =>
     rw [hst, hb, if_pos rfl, ← hI] at h2
     exact h2
    | false =>
     rw [hst, hb, if_neg (by simp), List.append_nil, ← hI] at h2
     exact h2
 rw [← hr]
 exact hk
def exiF.T8 : Bool × List (List Nat × List Nat) := (true, [([], []), ([0], [0]), ([1], [1]), ([2], [2]), ([], []), ([3, 4], [3, 4]), ([5], [5]), ([], []), ([7], [7]), ([8], [8]), ([9], [9]), ([], []), ([10, 11], [10, 11]), ([12], [12]), ([6, 0, 1, 2, 3, 4, 5, 6], [6]), ([13, 14, 0, 1, 2, 3, 4, 5, 6, 7, 8, 9, 10, 11, 12, 13, 14], [13]), ([15, 0, 1, 2, 3, 4, 5, 6, 7, 8, 9, 10, 11, 12, 13, 14, 15], [])])
def exiF.B8 : List Nat := [0, 1, 3, 7, 0, 31, 63, 0, 128, 384, 896, 0, 3968, 8064, 127, 32767, 65535]
theorem exiF.tab8 : rtab .any (opsOf Try.f48 8) = exiF.T8 := by kernel_rfl
theorem exiF.bits8 : waitsOk exiF.T8.2 exiF.B8 = true := by kernel_rfl
end Go.Proofs.Ytcobnlilmihjfaa.A


namespace Go.Proofs.Ytcobnlilmihjfaa.A
open Go.RowKit Go.Proofs.YtcobnlilmihjfaaW.PrintWords Go.Proofs.YtcobnlilmihjfaaW.PrintLast Go.Proofs.YtcobnlilmihjfaaW.PrintMore
set_option linter.unusedVariables false
set_option linter.unusedSimpArgs false
theorem isMv_lt63 {n : Nat} (h8 : n ≤ 8) {m : Int} (h : isMv n m = true) : m ≤ 9223372036854775807 := by
 unfold isMv at h
 rw [Bool.and_eq_true, Bool.and_eq_true, decide_eq_true_eq, decide_eq_true_eq] at h
 have h2 := h.2.1
 rw [pow_int] at h2
 have := pow_le8 n h8
 generalize 2 ^ n = N2 at h2 this
 omega
abbrev Ig' := S100
structure OutOk (out : List Ig') : Prop where
 len : out.length ≤ 100
 each : ∀ s ∈ out, s.f0.length ≤ 1200
theorem OutOk.add {out : List Ig'} (h : OutOk out) (hl : out.length < 100) {wy : List Int} {fr : Int} (hw : wy.length ≤ 1200) : OutOk (out ++ [⟨wy, fr⟩]) := by
 refine ⟨by rw [List.length_append]; simp only [List.length_cons, List.length_nil]; omega, fun s hs => ?_⟩
 rcases List.mem_append.1 hs with hs | hs
 ·exact h.each s hs
 ·obtain rfl := List.mem_singleton.1 hs
  exact hw
def sgsF.T12 : Bool × List (List Nat × List Nat) := (true, [([], []), ([], []), ([], []), ([1, 2], [1, 2]), ([3], [3]), ([4], [4]), ([0, 5], [0, 5]), ([6], [6]), ([7], [7]), ([7], [7]), ([8, 6, 0, 1, 2, 3, 4, 5, 6, 7, 8], [8]), ([9, 10, 0, 1, 2, 3, 4, 5, 6, 7, 8, 9, 10], [9])])
def sgsF.B12 : List Nat := [0, 0, 0, 6, 14, 30, 63, 127, 255, 255, 511, 2047]
theorem sgsF.tab12 : rtab .any (opsOf Try.f71 12) = sgsF.T12 := by kernel_rfl
theorem sgsF.bits12 : waitsOk sgsF.T12.2 sgsF.B12 = true := by kernel_rfl
def sgsF.T17 : Bool × List (List Nat × List Nat) := (true, [([], []), ([], []), ([], []), ([1, 2], [1, 2]), ([0, 3], [0, 3]), ([], []), ([], []), ([6], [6]), ([5, 7], [5, 7]), ([4, 8, 4], [4, 8]), ([9, 9, 0, 1, 2, 3, 4, 5, 6, 7, 8, 9], [1, 5, 9])])
def sgsF.B17 : List Nat := [0, 0, 0, 6, 15, 0, 0, 64, 224, 511, 1023]
theorem sgsF.tab17 : rtab .any (opsOf Try.f71 17) = sgsF.T17 := by kernel_rfl
theorem sgsF.bits17 : waitsOk sgsF.T17.2 sgsF.B17 = true := by kernel_rfl
end Go.Proofs.Ytcobnlilmihjfaa.A

namespace Go.Proofs.Ytcobnlilmihjfaa.A
open Go.RowKit Go.Proofs.YtcobnlilmihjfaaW.PrintWords Go.Proofs.YtcobnlilmihjfaaW.PrintLast Go.Proofs.YtcobnlilmihjfaaW.PrintMore
set_option linter.unusedVariables false
set_option linter.unusedSimpArgs false
def intP (parts : List (List Cb)) : Bool := asmP parts && decide ((freeP parts (zerosC parts.length)).length = 0)
theorem zerosC_at (n j : Nat) : (zerosC n).getD j ⟨0, 0, 0⟩ = ⟨0, 0, 0⟩ := by
 unfold zerosC
 rw [List.getD_eq_getElem?_getD]
 by_cases h : j < n
 ·simp [List.getElem?_replicate, h]
 ·simp [List.getElem?_replicate, h]
end Go.Proofs.Ytcobnlilmihjfaa.A

namespace Go.Proofs.Ytcobnlilmihjfaa.A
open Go.RowKit Go.Proofs.YtcobnlilmihjfaaW.PrintWords Go.Proofs.YtcobnlilmihjfaaW.PrintLast Go.Proofs.YtcobnlilmihjfaaW.PrintMore
set_option linter.unusedVariables false
set_option linter.unusedSimpArgs false
def asR (A : Option Addr) (pp : List (List Cb)) : Res := Res.ex (fun x : Nat × List (Sl × List Cb) => Res.star (Res.pure (x.2.map Prod.snd = pp)) (drR x.1 A x.2))
theorem asR_reads {w0 : World} {A : Option Addr} {pp : List (List Cb)} : RdsP w0 (asR A pp) A pp := by
 intro fp w hb hP
 obtain ⟨⟨base, PS⟩, f1, f2, hp, hq, _⟩ := hP
 have e : PS.map Prod.snd = pp := hp
 subst e
 exact drR_reads f2 w hb hq
theorem drOk_sz {PS : List (Sl × List Cb)} (h : DrOk PS) : SzOk (PS.map Prod.snd) := small_ok (by rw [List.length_map]; exact h.len) (fun p hp => by
 obtain ⟨q, hq, rfl⟩ := List.mem_map.1 hp
 exact h.each q hq)
theorem Sp.asIn {w0 w : World} {rs : List Res} {base : Nat} {A : Option Addr} {PS : List (Sl × List Cb)} (h : Sp w0 (drR base A PS :: rs) w) : Sp w0 (asR A (PS.map Prod.snd) :: rs) w := by
 have b := Sp.star_close (Sp.pureIn h (show PS.map Prod.snd = PS.map Prod.snd from rfl))
 exact Sp.ex_close (R := fun x : Nat × List (Sl × List Cb) => Res.star (Res.pure (x.2.map Prod.snd = PS.map Prod.snd)) (drR x.1 A x.2)) (base, PS) b (i := 0) rfl
theorem draw27A_calls {w0 : World} {gs : Nat} {code : List Int} (hok : CodeOk code) {p s : Int} (hS : SrcOk code p s) (rest : List Res) (w : World) (hs : Sp w0 (srcR w0 gs code p s :: rest) w) :
  Calls Try.prog 66 #[.pointer (some ⟨gs, 0, none⟩)] w fun e w' => ∃ A c pp p' s', e = .returned (.agg #[.slice A (pp : List (List Cb)).length c]) ∧ SrcOk code p' s' ∧ SzOk pp ∧ pp.length ≤ c ∧ Sp w0 (srcR w0 gs code p' s' :: asR A pp :: rest) w' := by
 refine (draw27_calls hok hS rest w hs).mono ?_
 rintro e w' ⟨A, c, PS, p', s', rfl, h1, h2, h3, h4⟩
 exact ⟨A, c, PS.map Prod.snd, p', s', by rw [List.length_map], h1, drOk_sz h2, by rw [List.length_map]; exact h3, Sp.swap (Sp.asIn (Sp.swap h4))⟩
def offR (A : Option Addr) (offs : List Cb) : Res := Res.ex (fun x : Nat × Nat => Res.row kC 94 x.1 (.slice A offs.length x.2) offs)
theorem offR_reads {w0 : World} {A : Option Addr} {offs : List Cb} : Rds w0 (offR A offs) A offs := by
 intro fp w hb hP
 obtain ⟨x, hx⟩ := hP
 exact Rds.row (base := x.1) fp w hb hx
theorem Sp.offIn {w0 w : World} {rs : List Res} {i base c : Nat} {A : Option Addr} {offs : List Cb} (h : Sp w0 rs w) (hi : rs[i]? = some (Res.row kC 94 base (.slice A offs.length c) offs)) : Sp w0 (rs.set i (offR A offs)) w := Sp.ex_close (R := fun x : Nat × Nat => Res.row kC 94 x.1 (.slice A offs.length x.2) offs) (base, c) h hi
set_option maxRecDepth 100000 in
theorem Sp.cubeField {w0 w : World} {rs : List Res} {i g n cap : Nat} {xs : List Cb} (h : Sp w0 rs w) (hi : rs[i]? = some (Res.row kC 94 w0.heap.size (.slice (some ⟨g, 0, none⟩) n cap) xs)) (k f : Nat) (hk : k < n) (hf : f < 3) (v : Int) :
  ∃ (w1 : World) (xs' : List Cb), (Instr.storeAt 2 (.pointer (some ⟨g, k * 3 + f, none⟩)) (.int .i64 v)).run Try.prog w = .ok () w1 ∧ xs'.length = xs.length ∧ Sp w0 (rs.set i (Res.row kC 94 w0.heap.size (.slice (some ⟨g, 0, none⟩) n cap) xs')) w1 := by
 obtain ⟨fp, ho, hfp, hc⟩ := Sp.row h hi
 obtain ⟨c, hcl, hcM, hcc, _⟩ := Kd.R_elem ho (⟨0, 0, 0⟩ : Cb) (k : Int) (by omega) (by omega)
 have hcl3 : c.length = 3 := hcl
 obtain ⟨q, hq⟩ : ∃ q, q = xs.getD (k : Int).toNat (⟨0, 0, 0⟩ : Cb) := ⟨_, rfl⟩
 rw [← hq] at hcM
 have hcq : c = [.int .i64 q.f0, .int .i64 q.f1, .int .i64 q.f2] := k94_openM hcM
 obtain ⟨x', hx'⟩ : ∃ x' : Cb, c.take f ++ [Value.int .i64 v] ++ c.drop (f + 1) = [.int .i64 x'.f0, .int .i64 x'.f1, .int .i64 x'.f2] := by
  rw [hcq]
  rcases (by omega : f = 0 ∨ f = 1 ∨ f = 2) with rfl | rfl | rfl
  ·exact ⟨⟨v, q.f1, q.f2⟩, rfl⟩
  ·exact ⟨⟨q.f0, v, q.f2⟩, rfl⟩
  ·exact ⟨⟨q.f0, q.f1, v⟩, rfl⟩
 have hsz : kC.sz = 3 := rfl
 have hnx : n = xs.length := (Kd.R_reads' ho).1
 obtain ⟨hR, hg⟩ := Kd.R_seg ho (k : Int) (by omega) (by omega) (c := c) (seg := [Value.int .i64 v]) (j := f) (x' := x') (okp := fun _ => False) hcl hcc (by rw [hsz]; simp only [List.length_cons, List.length_nil]; omega) (by
  show Kd.M kC _ _ _ x' (c.take f ++ [Value.int .i64 v] ++ c.drop (f + 1))
  rw [hx']
  exact k94_mkM _ _ _ x') (fun _ h => h.elim)
 rw [Int.toNat_natCast, hsz] at hR hg
 refine ⟨_, xs.set k x', ?_, by rw [List.length_set], hc _ _ _ hR hg⟩
 obtain ⟨_, inner, hown, hr⟩ := ho
 rcases hown.2 with ⟨hv, _⟩ | ⟨g', cap', cur, hv, hb, hh, hnc, hcm, hcs, _⟩
 ·cases hv
 injection hv with ha _ hc'
 injection ha with ha
 injection ha with hg'
 subst hg'; subst hc'
 refine run_store_run 2 (.int .i64 v) [.int .i64 v] hh rfl (by kernel_rfl) ?_ (fun q hq => by rw [List.mem_singleton.1 hq]; rfl)
 have h2 : k * 3 + 3 ≤ n * 3 := by omega
 have h3 : n * 3 ≤ cap * 3 := Nat.mul_le_mul_right _ (by omega)
 rw [hsz] at hcs
 simp only [List.length_cons, List.length_nil]
 omega
def DrOff (w0 : World) (gs : Nat) (code : List Int) (rest : List Res) (e : Ending) (w' : World) : Prop := ∃ A c pp Ao co offs p' s', e = .returned (.tuple #[.agg #[.slice A (pp : List (List Cb)).length c], .slice Ao (offs : List Cb).length co]) ∧ SrcOk code p' s' ∧ SzOk pp ∧ pp.length ≤ c ∧ offs.length ≤ co ∧ Sp w0 (srcR w0 gs code p' s' :: asR A pp :: offR Ao offs :: rest) w'
theorem drFin {w0 w : World} {rest : List Res} {gs : Nat} {code : List Int} {p s : Int} {A Ao : Option Addr} {pp : List (List Cb)} {offs : List Cb} {base co : Nat} {r1 r2 : Res} (h : Sp w0 ([Res.row kC 94 base (.slice Ao offs.length co) offs, srcR w0 gs code p s, asR A pp, r1, r2] ++ rest) w) : Sp w0 (srcR w0 gs code p s :: asR A pp :: offR Ao offs :: rest) w := by
 have h1 : Sp w0 ([srcR w0 gs code p s, asR A pp, offR Ao offs, r1, r2] ++ rest) w := Sp.arr (pre := [offR Ao offs, srcR w0 gs code p s, asR A pp, r1, r2]) [1, 2, 0, 3, 4] (Sp.offIn h (i := 0) rfl) rfl rfl
 exact Sp.out (Sp.out h1 3) 3
set_option maxHeartbeats 16000000 in
set_option maxRecDepth 100000 in
theorem draw27Off_calls {w0 : World} {gs : Nat} {code : List Int} (hok : CodeOk code) {p s : Int} (hS : SrcOk code p s) (rest : List Res) (w : World) (hs : Sp w0 (srcR w0 gs code p s :: rest) w) :
  Calls Try.prog 62 #[.pointer (some ⟨gs, 0, none⟩)] w fun e w' => DrOff w0 gs code rest e w' := by
 have hu69 := Try.underlying94
 have hu32 := Try.underlying26
 have HS := A0_ hs
 have HOK := A0_ hok
 have HSR := A0_ hS
 clear hs hS hok
 go_enter Try.func62, Try.ntmps62
 go_upto_region 2 with (first
  | (go_at_call 66; obtain ⟨gr, hg_⟩ : ∃ g_, g_ = (w).heap.size := ⟨_, rfl⟩; obtain ⟨w1, hw_⟩ : ∃ w_, w_ = (w).alloc (.cells #[.slice none 0 0] 26) := ⟨_, rfl⟩; (try rw [← hw_]); (try rw [← hg_]); have HS_ := A0_ (Sp.box HS.out #[.slice none 0 0] 26); rw [← hw_, ← hg_] at HS_; clear HS; have HS := HS_; clear HS_ hw_ hg_; refine (draw27A_calls HOK.out HSR.out _ _ (Sp.swap HS.out)).mono ?_; rintro e w3 ⟨A, c, pp, p2, s2, rfl, hS1, hz_, hc_, hs_⟩; clear HSR; have HSR := A0_ hS1; have HZ := A0_ hz_; have HCP := A0_ hc_; replace HS := A0_ (hs_); clear hs_ hS1 hz_ hc_)
  | ((with_reducible refine gate_dst (N := 4) rfl ?_); refine be_ (N := 4) (cs := #[.slice none 0 0]) (t := 26) ?_; intro ga hgb_ wb_ hcb_ hbb_; replace HS := A0_ (Sp.boxed HS.out hgb_ hcb_ hbb_); clear hgb_ hcb_ hbb_)
  | ((with_reducible refine gate_store (t := 26) (p := 4) rfl ?_); refine store_event rfl rfl rfl (exec_store (v := .pointer (some ⟨ga, 0, none⟩)) (u := (.agg #[.slice A pp.length c])) rfl ?hp ?hx (Sp.blkStore HS.out (i := 0) rfl ((.agg #[.slice A pp.length c])) (#[.slice A pp.length c]) rfl rfl (by kernel_rfl) (by first | (simp; done) | (simp [Value.oneCell']; done) | (simp; exact ⟨rfl, rfl, rfl⟩)))) ?_; (case hp => first | rfl | (go_simp; done) | (go_simp; rfl)); (case hx => first | rfl | (go_simp; done) | (go_simp; rfl)); intro ws_ hw_; have HS_ := A0_ (Sp.blkAll HS.out (i := 0) rfl (#[.slice A pp.length c]) rfl); rw [← hw_] at HS_; clear HS hw_; have HS := HS_; clear HS_; have hg0 := (cl_ HS 0 0 rfl).trans rfl))
 have HPL := A0_ HZ.out.len
 obtain ⟨as_, has⟩ : ∃ b, b = asmP pp := ⟨_, rfl⟩
 have HIA := A0_ (fun w1 h1 => sIsAsm_calls A c pp w1 h1 HCP.out HZ.out)
 rw [← has] at HIA
 have HS_ : Aside0 (Sp w0 ([Res.blk ga #[.slice A pp.length c] 26, srcR w0 gs code p2 s2, asR A pp, Res.blk gr #[.slice none 0 0] 26] ++ rest) _) := HS; clear HS; have HS := HS_; clear HS_
 go_upto_region 3 with (first
  | ((with_reducible refine gate_dst (N := 13) rfl ?_); refine Kd.R_make kC _ 94 rfl (N := 13) rfl 35 _ _ rfl ((pp.length : Nat) : Int) rfl rfl Try.underlying35 ((.agg #[(.int .i64 0), (.int .i64 0), (.int .i64 0)])) 24 info94 rfl (by decide) (by decide) ((⟨0, 0, 0⟩ : Cb)) (ok := fun _ => True) (okp := fun _ => True) (k94_mkM _ _ _ (⟨0, 0, 0⟩ : Cb)) (fun _ hk => hk) trivial ?h0 ?hl (Below.refl _ _) (Nat.le_refl _) ?_; (case h0 => omega); (case hl => have := HPL.out; omega); intro vm_ wm_ ho_ hb_ hg_ hn_; clear hg_ hn_; rw [Int.toNat_natCast] at ho_; obtain ⟨zs, hxs_⟩ : ∃ xs_, xs_ = List.replicate (pp.length) ((⟨0, 0, 0⟩ : Cb)) := ⟨_, rfl⟩; rw [← hxs_] at ho_; have Hzs := A0_ hxs_; clear hxs_; replace HS := A0_ (Sp.made' HS.out hb_ ho_); clear ho_ hb_; obtain ⟨Az, cz, ev_⟩ := Sp.slice HS.out (i := 0) rfl; subst ev_; clear hg0; have hg0 := (cl_ HS 1 0 rfl).trans rfl))
 have HZL := A0_ (show zs.length = pp.length by rw [Hzs.out, List.length_replicate])
 have HS_ : Aside0 (Sp w0 ([Res.row kC 94 w0.heap.size (.slice Az zs.length cz) zs, Res.blk ga #[.slice A pp.length c] 26, srcR w0 gs code p2 s2, asR A pp, Res.blk gr #[.slice none 0 0] 26] ++ rest) _) := HS; clear HS; have HS := HS_; clear HS_
 cases as_ with
 | false =>
  clear has
  go_wp2_with (first
   | (go_at_call 55; go_loud (refine (HIA.out _ (Sp.rdsP HS.out (i := 3) rfl asR_reads)).mono ?_; rintro e wc_ ⟨rfl, hb_⟩; replace HS := A0_ (Sp.far HS.out hb_); clear hb_; clear hg0; have hg0 := (cl_ HS 1 0 rfl).trans rfl))
   | ((with_reducible refine gate_store (t := 26) (p := 2) rfl ?_); refine store_event rfl rfl rfl (exec_store (v := .pointer (some ⟨gr, 0, none⟩)) (u := (.agg #[.slice A pp.length c])) rfl ?hp ?hx (Sp.blkStore HS.out (i := 4) rfl ((.agg #[.slice A pp.length c])) (#[.slice A pp.length c]) rfl rfl (by kernel_rfl) (by first | (simp; done) | (simp [Value.oneCell']; done) | (simp; exact ⟨rfl, rfl, rfl⟩)))) ?_; (case hp => first | rfl | (go_simp; done) | (go_simp; rfl)); (case hx => first | rfl | (go_simp; done) | (go_simp; rfl)); intro ws_ hw_; have HS_ := A0_ (Sp.blkAll HS.out (i := 4) rfl (#[.slice A pp.length c]) rfl); rw [← hw_] at HS_; clear HS hw_; have HS := HS_; clear HS_))
  (try simp only [Exit.inBlock, Exit.then]); refine bodyPost_ret (results_ct rfl _ _ gr 26 #[.slice A pp.length c] (0, 0) _ rfl (Sp.blk HS.out (i := 4) rfl).1 Try.underlying26 rfl (by kernel_rfl)) rfl ?_
  have hcz := (Sp.reads HS.out (i := 0) rfl).2.1
  replace HS := A0_ (Sp.arr (pre := [Res.row kC 94 w0.heap.size (.slice Az zs.length cz) zs, Res.blk ga #[.slice A pp.length c] 26, srcR w0 gs code p2 s2, asR A pp, Res.blk gr #[.slice A pp.length c] 26]) (pre' := [Res.row kC 94 w0.heap.size (.slice Az zs.length cz) zs, srcR w0 gs code p2 s2, asR A pp, Res.blk ga #[.slice A pp.length c] 26, Res.blk gr #[.slice A pp.length c] 26]) (rest := rest) [0, 2, 3, 1, 4] HS.out rfl rfl)
  have h1 : Sp w0 ([srcR w0 gs code p2 s2, asR A pp, offR Az zs, Res.blk ga #[.slice A pp.length c] 26, Res.blk gr #[.slice A pp.length c] 26] ++ rest) _ := Sp.arr (pre := [offR Az zs, srcR w0 gs code p2 s2, asR A pp, Res.blk ga #[.slice A pp.length c] 26, Res.blk gr #[.slice A pp.length c] 26]) [1, 2, 0, 3, 4] (Sp.offIn HS.out (i := 0) rfl) rfl rfl
  exact ⟨A, c, pp, Az, cz, zs, _, _, rfl, HSR.out, HZ.out, HCP.out, hcz, Sp.out (Sp.out h1 3) 3⟩
 | true =>
  have HLN := A0_ (show 2 ≤ pp.length ∧ pp.length ≤ 4 from (asm_of has.symm).1)
  have HMV := A0_ (smoves_at HZ.out has.symm)
  have hl8 : pp.length ≤ 8 := by have := HLN.out; omega
  clear has
  go_upto_block 0 with (first
   | (go_at_call 55; go_loud (refine (HIA.out _ (Sp.rdsP HS.out (i := 3) rfl asR_reads)).mono ?_; rintro e wc_ ⟨rfl, hb_⟩; replace HS := A0_ (Sp.far HS.out hb_); clear hb_; clear hg0; have hg0 := (cl_ HS 1 0 rfl).trans rfl))
   | (go_at_call 57; go_loud (refine (next_nat HOK.out HSR.out 6 (by decide) (i := 2) rfl _ HS.out).mono ?_; rintro e w5 ⟨n0, p5, s5, rfl, hr_, hS1, hs_⟩; clear HSR; have HSR := A0_ hS1; replace HS := A0_ (hs_); have HN0 := A0_ hr_; clear hs_ hS1 hr_)))
  have HS_ : Aside0 (Sp w0 ([Res.row kC 94 w0.heap.size (.slice Az zs.length cz) zs, Res.blk ga #[.slice A pp.length c] 26, srcR w0 gs code p5 s5, asR A pp, Res.blk gr #[.slice none 0 0] 26] ++ rest) _) := HS; clear HS; have HS := HS_; clear HS_
  clear HIA hg0
  go_wp2
  go_loopg [5, 6] (n0 + 1) (fun kq v5 v6 w' => ∃ (n : Nat) (of : List Cb) (Ao : Option Addr) (co : Nat) (p s : Int), v6 = .int .i64 (n : Int) ∧ v5 = .slice Ao of.length co ∧ Aside0 (kq = n + 1 ∧ n ≤ 6 ∧ of.length = pp.length) ∧ Aside0 (SrcOk code p s) ∧ Aside0 (Sp w0 ([Res.row kC 94 w0.heap.size (.slice Ao of.length co) of, Res.blk ga #[.slice A pp.length c] 26, srcR w0 gs code p s, asR A pp, Res.blk gr #[.slice none 0 0] 26] ++ rest) w'))
  case atStart => exact ⟨n0, zs, Az, cz, p5, s5, rfl, rfl, ⟨rfl, by have := HN0.out; omega, HZL.out⟩, HSR, HS⟩
  case round =>
   clear HS HSR
   obtain ⟨n, of, Ao, co, p, s, rfl, rfl, HX, HSR, HS⟩ := hrel
   obtain ⟨k1, rfl⟩ : ∃ k1, gk = k1 + 1 := ⟨gk - 1, by have := HX.out; omega⟩
   have hg0 := (cl_ HS 1 0 rfl).trans rfl
   by_cases cn : 0 < n
   ·have q0 : decide (0 < n) = true := decide_eq_true cn
    have q1 : ((n : Int) > 0) = True := eq_true (by omega)
    have q2 : ((0 : Int) < (n : Int)) = True := eq_true (by omega)
    have q3 : (0 < n) = True := eq_true cn
    have HCN := A0_ cn
    have HWP := A0_ (wrap_pred n cn (by have := HX.out; omega))
    obtain ⟨KM, hKM⟩ := HMV.out of HX.out.2.2
    obtain ⟨M, hM⟩ : ∃ M, M = movesP pp of := ⟨_, rfl⟩
    have hmm : ∀ m ∈ M, 6 ≤ m ∧ m ≤ 9223372036854775807 := fun m hm => by
     rw [hM] at hm
     have h1 := (moves_mem hm).1
     have h2 := isMv_lt63 hl8 h1
     unfold isMv at h1
     rw [Bool.and_eq_true, decide_eq_true_eq] at h1
     exact ⟨h1.1, h2⟩
    rw [← hM] at hKM
    have HKM := A0_ hKM
    have HMM := A0_ hmm
    clear cn hKM hM hmm
    go_upto_region 9 with (first
     | (go_at_call 92; go_loud (refine (spec_l27Moves.calls KM A c pp Ao co of M _ (Sp.rdsP HS.out (i := 3) rfl asR_reads) HCP.out (Sp.reads HS.out (i := 0) rfl).2.2 (Sp.reads HS.out (i := 0) rfl).2.1 HKM.out).mono ?_; rintro e wc_ ⟨v_, rfl, hr_, hb_⟩; replace HS := A0_ (Sp.made' HS.out hb_ hr_); obtain ⟨Amv, cmv, rfl⟩ := Kd.R_slice hr_; clear hr_ hb_; clear hg0)))
    by_cases cm : 0 < M.length
    ·have y0 : decide (0 < M.length) = true := decide_eq_true cm
     have y1 : ((M.length : Int) > 0) = True := eq_true (by omega)
     have y2 : ((0 : Int) < (M.length : Int)) = True := eq_true (by omega)
     have y3 : (0 < M.length) = True := eq_true cm
     obtain ⟨adm, e_⟩ := Sp.some_ HS.out (i := 0) rfl cm
     subst e_
     have HCM := A0_ cm
     clear cm
     go_wp2_with (first
      | (go_at_call 57; go_loud (refine (next_nat HOK.out HSR.out M.length HCM.out (i := 3) rfl _ HS.out).mono ?_; rintro e w6 ⟨k0, p6, s6, rfl, hr_, hS1, hs_⟩; clear HSR; have HSR := A0_ hS1; replace HS := A0_ (hs_); have hx := Sp.intCell HS.out (i := 0) rfl k0 hr_; have x0 : (0 ≤ (k0 : Int)) = True := eq_true (by omega); have x1 : ((k0 : Int) < (M.length : Int)) = True := eq_true (by omega); have x2 : (k0 < M.length) = True := eq_true hr_; have HMK := A0_ (show 6 ≤ M.getD k0 0 ∧ M.getD k0 0 ≤ 9223372036854775807 by rw [getD_at M 0 k0 hr_]; exact HMM.out _ (List.getElem_mem hr_)); obtain ⟨mm, hmm⟩ : ∃ mm, mm = M.getD k0 0 := ⟨_, rfl⟩; rw [← hmm] at hx HMK; obtain ⟨KA, hKA⟩ := (after_ev of mm (by have := HX.out; omega) HMK.out.1 HMK.out.2).rounds; have HKA := A0_ hKA; clear hs_ hS1 hr_ hmm hKA))
      | (go_at_call 59; go_loud (refine (spec_l27After.calls KA Ao co of mm (movedP of mm) _ (Sp.reads HS.out (i := 1) rfl).2.2 (Sp.reads HS.out (i := 1) rfl).2.1 HKA.out).mono ?_; rintro e wc_ ⟨v_, rfl, hr_, hb_⟩; replace HS := A0_ (Sp.made' HS.out hb_ hr_); obtain ⟨Anw, cnw, rfl⟩ := Kd.R_slice hr_; clear hr_ hb_; clear hx)))
     replace HS := A0_ (Sp.arr (pre := [Res.row kC 94 w0.heap.size (.slice Anw ((movedP of mm)).length cnw) (movedP of mm), Res.row kI 2 w0.heap.size (.slice (some adm) M.length cmv) M, Res.row kC 94 w0.heap.size (.slice Ao of.length co) of, Res.blk ga #[.slice A pp.length c] 26, srcR w0 gs code p6 s6, asR A pp, Res.blk gr #[.slice none 0 0] 26]) (pre' := [Res.row kC 94 w0.heap.size (.slice Anw ((movedP of mm)).length cnw) (movedP of mm), Res.blk ga #[.slice A pp.length c] 26, srcR w0 gs code p6 s6, asR A pp, Res.blk gr #[.slice none 0 0] 26, Res.row kI 2 w0.heap.size (.slice (some adm) M.length cmv) M, Res.row kC 94 w0.heap.size (.slice Ao of.length co) of]) (rest := rest) [0, 3, 4, 5, 6, 1, 2] HS.out rfl rfl)
     replace HS := A0_ ((show Sp w0 ([Res.row kC 94 w0.heap.size (.slice Anw ((movedP of mm)).length cnw) (movedP of mm), Res.blk ga #[.slice A pp.length c] 26, srcR w0 gs code p6 s6, asR A pp, Res.blk gr #[.slice none 0 0] 26] ++ rest) _ from Sp.out (Sp.out (HS.out) 5) 5))
     go_roundg k1
     case measure => omega
     case rel =>
      rw [HWP.out]
      exact ⟨n - 1, movedP of mm, _, _, p6, s6, rfl, rfl, ⟨by have := HX.out; have := HCN.out; omega, by have := HX.out; omega, by rw [movedP_len]; exact HX.out.2.2⟩, HSR, HS⟩
    ·have y0 : decide (0 < M.length) = false := decide_eq_false cm
     have y1 : ((M.length : Int) > 0) = False := eq_false (by omega)
     have y2 : ((0 : Int) < (M.length : Int)) = False := eq_false (by omega)
     have y3 : (0 < M.length) = False := eq_false cm
     clear cm
     go_wp2
     replace HS := A0_ ((show Sp w0 ([Res.row kC 94 w0.heap.size (.slice Ao of.length co) of, Res.blk ga #[.slice A pp.length c] 26, srcR w0 gs code p s, asR A pp, Res.blk gr #[.slice none 0 0] 26] ++ rest) _ from Sp.out (HS.out) 0))
     go_roundg k1
     case measure => omega
     case rel =>
      rw [HWP.out]
      exact ⟨n - 1, of, _, _, p, s, rfl, rfl, ⟨by have := HX.out; have := HCN.out; omega, by have := HX.out; omega, HX.out.2.2⟩, HSR, HS⟩
   ·have q0 : decide (0 < n) = false := decide_eq_false cn
    have q1 : ((n : Int) > 0) = False := eq_false (by omega)
    have q2 : ((0 : Int) < (n : Int)) = False := eq_false (by omega)
    have q3 : (0 < n) = False := eq_false cn
    have HOL := A0_ HX.out.2.2
    clear cn HX
    obtain ⟨ado, e_⟩ := Sp.some_ HS.out (i := 0) rfl (by have := HOL.out; have := HLN.out; omega)
    subst e_
    have hah := Sp.rowHome HS.out (i := 0) rfl 0 (by have := HOL.out; have := HLN.out; omega)
    obtain ⟨go, hgo⟩ : ∃ go, go = ado.block := ⟨_, rfl⟩
    rw [← hgo] at hah
    subst hah
    clear hgo
    go_upto_region 12 with (first
     | (go_at_call 57; go_loud (refine (next_at HOK.out HSR.out 24 (i := 2) rfl _ HS.out).mono ?_; rintro e w7 ⟨r9, p7, s7, rfl, hr_, hS1, hs_⟩; clear HSR; have HSR := A0_ hS1; replace HS := A0_ (hs_); clear hs_ hS1; clear hr_)))
    have HS_ : Aside0 (Sp w0 ([Res.row kC 94 w0.heap.size (.slice (some ⟨go, 0, none⟩) of.length co) of, Res.blk ga #[.slice A pp.length c] 26, srcR w0 gs code p7 s7, asR A pp, Res.blk gr #[.slice none 0 0] 26] ++ rest) _) := HS; clear HS; have HS := HS_; clear HS_
    have HOF := A0_ (show 2 ≤ of.length by have := HOL.out; have := HLN.out; omega)
    have HO8 := A0_ (show of.length ≤ 8 by have := HOL.out; have := HLN.out; omega)
    have i0 : (0 < of.length) = True := eq_true (by have := HOF.out; omega)
    have i1 : ((0 : Int) < (of.length : Int)) = True := eq_true (by have := HOF.out; omega)
    have i2 : (1 < of.length) = True := eq_true (by have := HOF.out; omega)
    have i3 : ((1 : Int) < (of.length : Int)) = True := eq_true (by have := HOF.out; omega)
    clear hg0
    have hg0 := (cl_ HS 1 0 rfl).trans rfl
    rcases five r9 with h1_ | h1_ | h1_ | h1_ | ⟨z0, z1, z2, z3, z4, z5, z6, z7⟩
    ·subst h1_
     go_wp2_with (first
      | ((with_reducible refine gate_store (t := 2) (p := 46) rfl ?_); obtain ⟨w1_, xs_, hr_, hlx_, hs_⟩ := Sp.cubeField HS.out (i := 0) rfl 0 0 (by have := HOF.out; omega) (by decide) (1); go_loud (refine store_event rfl rfl rfl (exec_store (v := .pointer (some ⟨go, 0, none⟩)) (u := .int .i64 (1)) rfl ?hp ?hx (by first | exact hr_ | simpa using hr_)) ?_; (case hp => first | rfl | (go_simp; done) | (go_simp; rfl)); (case hx => first | rfl | (go_simp; done) | (go_simp; rfl)); intro ws_ hw_; rw [← hw_] at hs_; clear hr_ hw_ HS; have HS := A0_ hs_; clear hs_; clear hg0; have hg0 := (cl_ HS 1 0 rfl).trans rfl))
      | ((with_reducible refine gate_store (t := 26) (p := 2) rfl ?_); refine store_event rfl rfl rfl (exec_store (v := .pointer (some ⟨gr, 0, none⟩)) (u := (.agg #[.slice A pp.length c])) rfl ?hp ?hx (Sp.blkStore HS.out (i := 4) rfl ((.agg #[.slice A pp.length c])) (#[.slice A pp.length c]) rfl rfl (by kernel_rfl) (by first | (simp; done) | (simp [Value.oneCell']; done) | (simp; exact ⟨rfl, rfl, rfl⟩)))) ?_; (case hp => first | rfl | (go_simp; done) | (go_simp; rfl)); (case hx => first | rfl | (go_simp; done) | (go_simp; rfl)); intro ws_ hw_; have HS_ := A0_ (Sp.blkAll HS.out (i := 4) rfl (#[.slice A pp.length c]) rfl); rw [← hw_] at HS_; clear HS hw_; have HS := HS_; clear HS_))
     (try simp only [Exit.inBlock, Exit.then]); refine bodyPost_ret (results_ct rfl _ _ gr 26 #[.slice A pp.length c] (0, 0) _ rfl (Sp.blk HS.out (i := 4) rfl).1 Try.underlying26 rfl (by kernel_rfl)) rfl ?_
     have hcz := (Sp.reads HS.out (i := 0) rfl).2.1
     replace HS := A0_ (Sp.arr (pre := [Res.row kC 94 w0.heap.size (.slice (some ⟨go, 0, none⟩) of.length co) xs_, Res.blk ga #[.slice A pp.length c] 26, srcR w0 gs code p7 s7, asR A pp, Res.blk gr #[.slice A pp.length c] 26]) (pre' := [Res.row kC 94 w0.heap.size (.slice (some ⟨go, 0, none⟩) of.length co) xs_, srcR w0 gs code p7 s7, asR A pp, Res.blk ga #[.slice A pp.length c] 26, Res.blk gr #[.slice A pp.length c] 26]) (rest := rest) [0, 2, 3, 1, 4] HS.out rfl rfl)
     exact ⟨A, c, pp, _, _, xs_, _, _, (by rw [hlx_]; rfl), HSR.out, HZ.out, HCP.out, (by rw [hlx_]; exact hcz), drFin (hlx_ ▸ HS.out)⟩
    ·subst h1_
     go_wp2_with (first
      | ((with_reducible refine gate_dst (N := 51) rfl ?_); refine Kd.R_lit kC _ 94 ?hg (N := 51) ?hd (xs := ([⟨0, 0, 0⟩] : List Cb)) (inner := [.int .i64 0, .int .i64 0, .int .i64 0]) (ok := fun _ => True) (okp := fun _ => True) ?hr ?hp (fun _ hk => hk) trivial (Below.refl _ _) (Nat.le_refl _) (by simp) ?_; (case hd => rfl); (case hg => rfl); (case hr => first | (go_simp; done) | (go_simp; rfl)); (case hp => exact (Reps.c3 (reps1C _ _ _ ⟨0, 0, 0⟩) (Reps.none _ _))); intro vl_ wl_ ho_ hb_ hg_ hn_; clear hg_ hn_; replace HS := A0_ (Sp.made' HS.out hb_ ho_); clear ho_ hb_; obtain ⟨Aone, cone, ev_⟩ := Sp.slice HS.out (i := 0) rfl; subst ev_; clear hg0; have hg0 := (cl_ HS 2 0 rfl).trans rfl)
      | ((with_reducible refine gate_builtin (b := .append) (xs := #[.tmp 49, .tmp 51]) rfl ?_); at_builtin; obtain ⟨fp_, ho_, hf_, hc_⟩ := Sp.row HS.out (i := 1) rfl; refine Kd.R_append_rows kC (w0 := w0) w0.heap.size rfl (.tmp 49) (.tmp 51) 35 94 ((.agg #[(.int .i64 0), (.int .i64 0), (.int .i64 0)])) 24 rfl Try.underlying35 info94 rfl (by decide) (by omega) (.slice (some ⟨go, 0, none⟩) of.length co) (of) (([⟨0, 0, 0⟩] : List Cb)) _ _ _ _ (fun _ => False) rfl rfl ho_ ((Sp.reads HS.out (i := 0) rfl).2.2) (fun _ _ h => h) (fun _ h => h.elim) (fun _ h => Or.inr h) HS.out.below HS.out.below.size ?aL ?_; (case aL => (have := HO8.out; simp only [List.length_cons, List.length_nil]; omega)); intro va_ wa_ ho hb hg hat; replace HS := A0_ (hc_ _ _ _ ho hg); clear ho hb hg hat hc_ hf_ ho_ fp_; obtain ⟨AP1, cP1, ev_⟩ := Sp.slice HS.out (i := 1) rfl; subst ev_; clear hg0; have hg0 := (cl_ HS 2 0 rfl).trans rfl)
      | ((with_reducible refine gate_store (t := 26) (p := 2) rfl ?_); refine store_event rfl rfl rfl (exec_store (v := .pointer (some ⟨gr, 0, none⟩)) (u := (.agg #[.slice A pp.length c])) rfl ?hp ?hx (Sp.blkStore HS.out (i := 5) rfl ((.agg #[.slice A pp.length c])) (#[.slice A pp.length c]) rfl rfl (by kernel_rfl) (by first | (simp; done) | (simp [Value.oneCell']; done) | (simp; exact ⟨rfl, rfl, rfl⟩)))) ?_; (case hp => first | rfl | (go_simp; done) | (go_simp; rfl)); (case hx => first | rfl | (go_simp; done) | (go_simp; rfl)); intro ws_ hw_; have HS_ := A0_ (Sp.blkAll HS.out (i := 5) rfl (#[.slice A pp.length c]) rfl); rw [← hw_] at HS_; clear HS hw_; have HS := HS_; clear HS_))
     (try simp only [Exit.inBlock, Exit.then]); refine bodyPost_ret (results_ct rfl _ _ gr 26 #[.slice A pp.length c] (0, 0) _ rfl (Sp.blk HS.out (i := 5) rfl).1 Try.underlying26 rfl (by kernel_rfl)) rfl ?_
     have hcz := (Sp.reads HS.out (i := 1) rfl).2.1
     replace HS := A0_ (Sp.arr (pre := [Res.row kC 94 w0.heap.size (.slice Aone (([⟨0, 0, 0⟩] : List Cb)).length cone) ([⟨0, 0, 0⟩] : List Cb), Res.row kC 94 w0.heap.size (.slice AP1 ((of ++ ([⟨0, 0, 0⟩] : List Cb))).length cP1) (of ++ ([⟨0, 0, 0⟩] : List Cb)), Res.blk ga #[.slice A pp.length c] 26, srcR w0 gs code p7 s7, asR A pp, Res.blk gr #[.slice A pp.length c] 26]) (pre' := [Res.row kC 94 w0.heap.size (.slice AP1 ((of ++ ([⟨0, 0, 0⟩] : List Cb))).length cP1) (of ++ ([⟨0, 0, 0⟩] : List Cb)), srcR w0 gs code p7 s7, asR A pp, Res.row kC 94 w0.heap.size (.slice Aone (([⟨0, 0, 0⟩] : List Cb)).length cone) ([⟨0, 0, 0⟩] : List Cb), Res.blk ga #[.slice A pp.length c] 26, Res.blk gr #[.slice A pp.length c] 26]) (rest := rest) [1, 3, 4, 0, 2, 5] HS.out rfl rfl)
     replace HS := A0_ ((show Sp w0 ([Res.row kC 94 w0.heap.size (.slice AP1 ((of ++ ([⟨0, 0, 0⟩] : List Cb))).length cP1) (of ++ ([⟨0, 0, 0⟩] : List Cb)), srcR w0 gs code p7 s7, asR A pp, Res.blk ga #[.slice A pp.length c] 26, Res.blk gr #[.slice A pp.length c] 26] ++ rest) _ from Sp.out (HS.out) 3))
     exact ⟨A, c, pp, _, _, of ++ ([⟨0, 0, 0⟩] : List Cb), _, _, (by have e_ : (of ++ ([⟨0, 0, 0⟩] : List Cb)).length = of.length + 1 := (by simp); rw [e_]; rfl), HSR.out, HZ.out, HCP.out, hcz, drFin (HS.out)⟩
    ·subst h1_
     go_wp2_with (first
      | ((with_reducible refine gate_dst (N := 56) rfl ?_); refine Kd.R_lit kI _ 2 ?hg (N := 56) ?hd (xs := ([12, 13] : List Int)) (inner := [.int .i64 12, .int .i64 13]) (ok := fun _ => True) (okp := fun _ => True) ?hr ?hp (fun _ hk => hk) trivial (Below.refl _ _) (Nat.le_refl _) (by simp) ?_; (case hd => rfl); (case hg => rfl); (case hr => first | (go_simp; done) | (go_simp; rfl)); (case hp => exact (Reps.one rfl (Reps.one rfl (Reps.none _ _)))); intro vl_ wl_ ho_ hb_ hg_ hn_; clear hg_ hn_; replace HS := A0_ (Sp.made' HS.out hb_ ho_); clear ho_ hb_; obtain ⟨Atwo, ctwo, ev_⟩ := Sp.slice HS.out (i := 0) rfl; subst ev_; obtain ⟨adl, e_⟩ := Sp.some_ HS.out (i := 0) rfl (by decide); subst e_; clear hg0; have hg0 := (cl_ HS 2 0 rfl).trans rfl)
      | (go_at_call 57; go_loud (refine (next_nat HOK.out HSR.out 2 (by decide) (i := 3) rfl _ HS.out).mono ?_; rintro e w8 ⟨k0, p8, s8, rfl, hr_, hS1, hs_⟩; clear HSR; have HSR := A0_ hS1; replace HS := A0_ (hs_); have hx := Sp.intCell HS.out (i := 0) rfl k0 hr_; have x0 : (0 ≤ (k0 : Int)) = True := eq_true (by omega); have x1 : ((k0 : Int) < 2) = True := eq_true (by omega); have x2 : (k0 < 2) = True := eq_true hr_; obtain ⟨vv, hvv⟩ : ∃ vv, vv = ([12, 13] : List Int).getD k0 0 := ⟨_, rfl⟩; rw [← hvv] at hx; clear hs_ hS1 hr_ hvv hg0; have hg0 := (cl_ HS 2 0 rfl).trans rfl))
      | ((with_reducible refine gate_store (t := 2) (p := 62) rfl ?_); obtain ⟨w1_, xs_, hr_, hlx_, hs_⟩ := Sp.cubeField HS.out (i := 1) rfl 1 2 (by have := HOF.out; omega) (by decide) (vv); go_loud (refine store_event rfl rfl rfl (exec_store (v := .pointer (some ⟨go, 5, none⟩)) (u := .int .i64 (vv)) rfl ?hp ?hx (by first | exact hr_ | simpa using hr_)) ?_; (case hp => first | rfl | (go_simp; done) | (go_simp; rfl)); (case hx => first | rfl | (go_simp; done) | (go_simp; rfl)); intro ws_ hw_; rw [← hw_] at hs_; clear hr_ hw_ HS; have HS := A0_ hs_; clear hs_; clear hg0 hx; have hg0 := (cl_ HS 2 0 rfl).trans rfl))
      | ((with_reducible refine gate_store (t := 26) (p := 2) rfl ?_); refine store_event rfl rfl rfl (exec_store (v := .pointer (some ⟨gr, 0, none⟩)) (u := (.agg #[.slice A pp.length c])) rfl ?hp ?hx (Sp.blkStore HS.out (i := 5) rfl ((.agg #[.slice A pp.length c])) (#[.slice A pp.length c]) rfl rfl (by kernel_rfl) (by first | (simp; done) | (simp [Value.oneCell']; done) | (simp; exact ⟨rfl, rfl, rfl⟩)))) ?_; (case hp => first | rfl | (go_simp; done) | (go_simp; rfl)); (case hx => first | rfl | (go_simp; done) | (go_simp; rfl)); intro ws_ hw_; have HS_ := A0_ (Sp.blkAll HS.out (i := 5) rfl (#[.slice A pp.length c]) rfl); rw [← hw_] at HS_; clear HS hw_; have HS := HS_; clear HS_))
     (try simp only [Exit.inBlock, Exit.then]); refine bodyPost_ret (results_ct rfl _ _ gr 26 #[.slice A pp.length c] (0, 0) _ rfl (Sp.blk HS.out (i := 5) rfl).1 Try.underlying26 rfl (by kernel_rfl)) rfl ?_
     have hcz := (Sp.reads HS.out (i := 1) rfl).2.1
     replace HS := A0_ (Sp.arr (pre := [Res.row kI 2 w0.heap.size (.slice (some adl) (([12, 13] : List Int)).length ctwo) ([12, 13] : List Int), Res.row kC 94 w0.heap.size (.slice (some ⟨go, 0, none⟩) of.length co) xs_, Res.blk ga #[.slice A pp.length c] 26, srcR w0 gs code p8 s8, asR A pp, Res.blk gr #[.slice A pp.length c] 26]) (pre' := [Res.row kC 94 w0.heap.size (.slice (some ⟨go, 0, none⟩) of.length co) xs_, srcR w0 gs code p8 s8, asR A pp, Res.row kI 2 w0.heap.size (.slice (some adl) (([12, 13] : List Int)).length ctwo) ([12, 13] : List Int), Res.blk ga #[.slice A pp.length c] 26, Res.blk gr #[.slice A pp.length c] 26]) (rest := rest) [1, 3, 4, 0, 2, 5] HS.out rfl rfl)
     replace HS := A0_ ((show Sp w0 ([Res.row kC 94 w0.heap.size (.slice (some ⟨go, 0, none⟩) of.length co) xs_, srcR w0 gs code p8 s8, asR A pp, Res.blk ga #[.slice A pp.length c] 26, Res.blk gr #[.slice A pp.length c] 26] ++ rest) _ from Sp.out (HS.out) 3))
     exact ⟨A, c, pp, _, _, xs_, _, _, (by rw [hlx_]; rfl), HSR.out, HZ.out, HCP.out, (by rw [hlx_]; exact hcz), drFin (hlx_ ▸ HS.out)⟩
    ·subst h1_
     obtain ⟨hy0, hy1, hy2⟩ := Sp.cubeCell HS.out (i := 0) rfl 1 (by have := HOF.out; omega)
     obtain ⟨y, hy⟩ : ∃ y, y = cAt of 1 := ⟨_, rfl⟩
     rw [← hy] at hy0
     have hy3 : w7.cell? ⟨go, 3, none⟩ = some (.int .i64 y.f0) := by simpa [Addr.add] using hy0
     clear hy hy0 hy1 hy2
     go_wp2_with (first
      | ((with_reducible refine gate_store (t := 2) (p := 72) rfl ?_); obtain ⟨w1_, xs_, hr_, hlx_, hs_⟩ := Sp.cubeField HS.out (i := 0) rfl 1 0 (by have := HOF.out; omega) (by decide) ((wrap64 (y.f0 + 1))); go_loud (refine store_event rfl rfl rfl (exec_store (v := .pointer (some ⟨go, 3, none⟩)) (u := .int .i64 ((wrap64 (y.f0 + 1)))) rfl ?hp ?hx (by first | exact hr_ | simpa using hr_)) ?_; (case hp => first | rfl | (go_simp; done) | (go_simp; rfl)); (case hx => first | rfl | (go_simp; done) | (go_simp; rfl)); intro ws_ hw_; rw [← hw_] at hs_; clear hr_ hw_ HS; have HS := A0_ hs_; clear hs_; clear hg0 hy3; have hg0 := (cl_ HS 1 0 rfl).trans rfl))
      | ((with_reducible refine gate_store (t := 26) (p := 2) rfl ?_); refine store_event rfl rfl rfl (exec_store (v := .pointer (some ⟨gr, 0, none⟩)) (u := (.agg #[.slice A pp.length c])) rfl ?hp ?hx (Sp.blkStore HS.out (i := 4) rfl ((.agg #[.slice A pp.length c])) (#[.slice A pp.length c]) rfl rfl (by kernel_rfl) (by first | (simp; done) | (simp [Value.oneCell']; done) | (simp; exact ⟨rfl, rfl, rfl⟩)))) ?_; (case hp => first | rfl | (go_simp; done) | (go_simp; rfl)); (case hx => first | rfl | (go_simp; done) | (go_simp; rfl)); intro ws_ hw_; have HS_ := A0_ (Sp.blkAll HS.out (i := 4) rfl (#[.slice A pp.length c]) rfl); rw [← hw_] at HS_; clear HS hw_; have HS := HS_; clear HS_))
     (try simp only [Exit.inBlock, Exit.then]); refine bodyPost_ret (results_ct rfl _ _ gr 26 #[.slice A pp.length c] (0, 0) _ rfl (Sp.blk HS.out (i := 4) rfl).1 Try.underlying26 rfl (by kernel_rfl)) rfl ?_
     have hcz := (Sp.reads HS.out (i := 0) rfl).2.1
     replace HS := A0_ (Sp.arr (pre := [Res.row kC 94 w0.heap.size (.slice (some ⟨go, 0, none⟩) of.length co) xs_, Res.blk ga #[.slice A pp.length c] 26, srcR w0 gs code p7 s7, asR A pp, Res.blk gr #[.slice A pp.length c] 26]) (pre' := [Res.row kC 94 w0.heap.size (.slice (some ⟨go, 0, none⟩) of.length co) xs_, srcR w0 gs code p7 s7, asR A pp, Res.blk ga #[.slice A pp.length c] 26, Res.blk gr #[.slice A pp.length c] 26]) (rest := rest) [0, 2, 3, 1, 4] HS.out rfl rfl)
     exact ⟨A, c, pp, _, _, xs_, _, _, (by rw [hlx_]; rfl), HSR.out, HZ.out, HCP.out, (by rw [hlx_]; exact hcz), drFin (hlx_ ▸ HS.out)⟩
    ·
     go_wp2_with (first
      | ((with_reducible refine gate_store (t := 26) (p := 2) rfl ?_); refine store_event rfl rfl rfl (exec_store (v := .pointer (some ⟨gr, 0, none⟩)) (u := (.agg #[.slice A pp.length c])) rfl ?hp ?hx (Sp.blkStore HS.out (i := 4) rfl ((.agg #[.slice A pp.length c])) (#[.slice A pp.length c]) rfl rfl (by kernel_rfl) (by first | (simp; done) | (simp [Value.oneCell']; done) | (simp; exact ⟨rfl, rfl, rfl⟩)))) ?_; (case hp => first | rfl | (go_simp; done) | (go_simp; rfl)); (case hx => first | rfl | (go_simp; done) | (go_simp; rfl)); intro ws_ hw_; have HS_ := A0_ (Sp.blkAll HS.out (i := 4) rfl (#[.slice A pp.length c]) rfl); rw [← hw_] at HS_; clear HS hw_; have HS := HS_; clear HS_))
     (try simp only [Exit.inBlock, Exit.then]); refine bodyPost_ret (results_ct rfl _ _ gr 26 #[.slice A pp.length c] (0, 0) _ rfl (Sp.blk HS.out (i := 4) rfl).1 Try.underlying26 rfl (by kernel_rfl)) rfl ?_
     have hcz := (Sp.reads HS.out (i := 0) rfl).2.1
     replace HS := A0_ (Sp.arr (pre := [Res.row kC 94 w0.heap.size (.slice (some ⟨go, 0, none⟩) of.length co) of, Res.blk ga #[.slice A pp.length c] 26, srcR w0 gs code p7 s7, asR A pp, Res.blk gr #[.slice A pp.length c] 26]) (pre' := [Res.row kC 94 w0.heap.size (.slice (some ⟨go, 0, none⟩) of.length co) of, srcR w0 gs code p7 s7, asR A pp, Res.blk ga #[.slice A pp.length c] 26, Res.blk gr #[.slice A pp.length c] 26]) (rest := rest) [0, 2, 3, 1, 4] HS.out rfl rfl)
     exact ⟨A, c, pp, _, _, of, _, _, rfl, HSR.out, HZ.out, HCP.out, hcz, drFin (HS.out)⟩
def freeR (parts : List (List Cb)) (offs : List Cb) : List Int × Int := if codeP parts offs = 0 then (freeP parts offs, 0) else ([], codeP parts offs)
def leaveR (parts : List (List Cb)) (offs : List Cb) (p d : Int) : Bool × Int := if codeP parts offs = 0 then (if (0 ≤ p ∧ p < parts.length) ∧ (0 ≤ d ∧ d < 6) then (leavesP parts offs p d, 0) else (false, 4)) else (false, codeP parts offs)
theorem code_00 {parts : List (List Cb)} {offs : List Cb} (h : codeP parts offs = 0) : asmP parts = true ∧ areOffP parts offs = true := by
 unfold codeP at h
 by_cases c : asmP parts = true
 ·rw [if_pos c] at h
  by_cases d : areOffP parts offs = true
  ·exact ⟨c, d⟩
  ·rw [if_neg d] at h; cases h
 ·rw [if_neg c] at h; cases h
theorem some_of {w : World} {Ao : Option Addr} {offs : List Cb} (h : kC.C w Ao offs.length offs) (hn : 0 < offs.length) : ∃ ad, Ao = some ad := by
 obtain ⟨ad, e, _⟩ := h.2.2 hn
 exact ⟨ad, e⟩
set_option maxHeartbeats 4000000 in
set_option maxRecDepth 100000 in
theorem readOffs0_calls (w0 : World) (Ap : Option Addr) (cp : Nat) (parts : List (List Cb)) (hC : kP.C w0 Ap parts.length parts) (hz : SzOk parts) (Ao : Option Addr) (co : Nat) (offs : List Cb) (hO : kC.C w0 Ao offs.length offs) (hco : offs.length ≤ co) (hcd : codeP parts offs = 0) (rest : List Res) (w : World) (hs : Sp w0 rest w) :
  Calls Try.prog 52 #[.agg #[.slice Ap parts.length cp], .slice Ao offs.length co] w fun e w' => ∃ gf gM, e = .returned (.tuple #[.pointer (some ⟨gf, 0, none⟩), .int .i64 0]) ∧ Sp w0 ([frBlk gf gM Ap cp parts, frMemo gM parts, Res.pure True] ++ rest) w' := by
 have hu32 := Try.underlying26
 obtain ⟨has, hof⟩ := code_00 hcd
 have HS := A0_ hs
 have HIA := A0_ (fun rest w hs => iIsAsm_calls w0 Ap cp parts hC hz rest w hs)
 rw [has] at HIA
 have hF := fr_at hC hz has
 have hne : 1 ≤ parts.length := by have := (asm_of has).1; omega
 have HNF := A0_ (fun rest w hs => newFrame_calls w0 Ap cp parts rest w hs)
 have HAO := A0_ (fun g gM rest w hs => areOff_calls w0 Ap cp g gM parts hF hne (Res.pure True) Ao co offs (rdsOld hO) hco rest w hs)
 rw [hof] at HAO
 clear has hof hC hz hO hco hs hF hne hcd
 go_enter Try.func52, Try.ntmps52
 go_wp2_with (first
  | ((with_reducible refine gate_dst (N := 2) rfl ?_); refine be_ (N := 2) (cs := #[.slice Ap parts.length cp]) (t := 26) ?_; intro ga hgb_ wb_ hcb_ hbb_; replace HS := A0_ (Sp.boxed HS.out hgb_ hcb_ hbb_); clear hgb_ hcb_ hbb_; have ha0 := (cl_ HS 0 0 rfl).trans rfl)
  | (go_at_call 43; go_loud (refine (HIA.out _ _ HS.out).mono ?_; rintro e wi_ ⟨rfl, hs_⟩; replace HS := A0_ (hs_); clear hs_ ha0; have ha0 := (cl_ HS 0 0 rfl).trans rfl))
  | (go_at_call 50; go_loud (refine (HNF.out _ _ HS.out).mono ?_; rintro e wn_ ⟨gf, gM, rfl, hs_⟩; replace HS := A0_ (hs_); clear hs_ ha0))
  | (go_at_call 60; go_loud (have h2_ := A0_ (Sp.arr (pre := [Res.pure True, frBlk gf gM Ap cp parts, frMemo gM parts]) (pre' := [frBlk gf gM Ap cp parts, frMemo gM parts, Res.pure True]) [1, 2, 0] (Sp.pureIn HS.out trivial) rfl rfl); refine (HAO.out gf gM _ _ h2_.out).mono ?_; rintro e wo_ ⟨rfl, hs_⟩; replace HS := A0_ (hs_); clear hs_ h2_)))
 go_ret2
 exact ⟨gf, gM, rfl, Sp.out HS.out 3⟩
set_option maxHeartbeats 4000000 in
set_option maxRecDepth 100000 in
theorem iFree_calls (Ap : Option Addr) (cp : Nat) (parts : List (List Cb)) (Ao : Option Addr) (co : Nat) (offs : List Cb) (w : World) (hC : kP.C w Ap parts.length parts) (hz : SzOk parts) (hO : kC.C w Ao offs.length offs) (hco : offs.length ≤ co) :
  Calls Try.prog 26 #[.agg #[.slice Ap parts.length cp], .slice Ao offs.length co] w fun e w' => ∃ v_ : Value, e = .returned (.tuple #[v_, .int .i64 (freeR parts offs).2]) ∧ kI.R 2 w' w.heap.size (fun _ => True) v_ (freeR parts offs).1 ∧ Below w.heap.size w w' := by
 have hu32 := Try.underlying26
 have HS := A0_ (Sp.start w)
 have hre : freeR parts offs = if codeP parts offs = 0 then (freeP parts offs, 0) else ([], codeP parts offs) := rfl
 obtain ⟨R, hR⟩ : ∃ R, R = freeR parts offs := ⟨_, rfl⟩
 rw [← hR] at hre ⊢
 by_cases c : codeP parts offs = 0
 ·obtain ⟨has, hof⟩ := code_00 c
  have hl := (code_0 c).2
  have HRD := A0_ (fun rest w' hs => readOffs0_calls w Ap cp parts hC hz Ao co offs hO hco c rest w' hs)
  rw [if_pos c] at hre
  have HRE := A0_ hre
  obtain ⟨ado, ea⟩ := some_of hO (by have := (asm_of has).1; omega)
  subst ea
  have HMV := A0_ (fun g gM rest w' hs => free_calls w Ap cp g gM parts (fr_at hC hz has) (Res.pure True) ado co offs (rdsOld hO) hl rest w' hs)
  clear hC hz hO hco hR hre c has hof hl
  go_enter Try.func26, Try.ntmps26
  go_wp2_with (first
   | ((with_reducible refine gate_dst (N := 2) rfl ?_); refine be_ (N := 2) (cs := #[.slice Ap parts.length cp]) (t := 26) ?_; intro ga hgb_ wb_ hcb_ hbb_; replace HS := A0_ (Sp.boxed HS.out hgb_ hcb_ hbb_); clear hgb_ hcb_ hbb_; have ha0 := (cl_ HS 0 0 rfl).trans rfl)
   | (go_at_call 52; go_loud (refine (HRD.out _ _ HS.out).mono ?_; rintro e wi_ ⟨gf, gM, rfl, hs_⟩; replace HS := A0_ (hs_); clear hs_ ha0))
   | (go_at_call 45; go_loud (refine (HMV.out gf gM _ _ HS.out).mono ?_; rintro e wm_ ⟨A_, c_, rfl, hs_⟩; replace HS := A0_ (hs_); clear hs_)))
  go_ret2
  rw [HRE.out]
  obtain ⟨fp_, hp_, _⟩ := Sp.get HS.out (i := 0) rfl
  exact ⟨_, rfl, Kd.R_mono hp_ (fun _ _ => trivial), HS.out.below⟩
 ·have HRD := A0_ (fun rest w' hs => readOffs_calls w Ap cp parts hC hz Ao co offs hO hco rest w' hs)
  rw [if_neg c] at hre
  obtain ⟨cd, hcd⟩ : ∃ cd, cd = codeP parts offs := ⟨_, rfl⟩
  rw [← hcd] at hre HRD c
  have HRE := A0_ hre
  have c0 : (cd == 0) = false := by rw [beq_eq_false_iff_ne]; exact c
  have c1 : (cd != 0) = true := by rw [bne_iff_ne]; exact c
  have c2 : (cd = 0) = False := eq_false c
  clear hC hz hO hco hR hre c hcd
  go_enter Try.func26, Try.ntmps26
  go_wp2_with (first
   | ((with_reducible refine gate_dst (N := 2) rfl ?_); refine be_ (N := 2) (cs := #[.slice Ap parts.length cp]) (t := 26) ?_; intro ga hgb_ wb_ hcb_ hbb_; replace HS := A0_ (Sp.boxed HS.out hgb_ hcb_ hbb_); clear hgb_ hcb_ hbb_; have ha0 := (cl_ HS 0 0 rfl).trans rfl)
   | (go_at_call 52; go_loud (refine (HRD.out _ _ HS.out).mono ?_; rintro e wi_ ⟨v_, rfl, hs_⟩; replace HS := A0_ (hs_); clear hs_ ha0)))
  go_ret2
  rw [HRE.out]
  exact ⟨_, rfl, Kd.R_nil kI 2 _ _ _, HS.out.below⟩
set_option maxHeartbeats 4000000 in
set_option maxRecDepth 100000 in
theorem iLeave_calls (Ap : Option Addr) (cp : Nat) (parts : List (List Cb)) (Ao : Option Addr) (co : Nat) (offs : List Cb) (p d : Int) (w : World) (hC : kP.C w Ap parts.length parts) (hz : SzOk parts) (hO : kC.C w Ao offs.length offs) (hco : offs.length ≤ co) :
  Calls Try.prog 16 #[.agg #[.slice Ap parts.length cp], .slice Ao offs.length co, .int .i64 p, .int .i64 d] w fun e w' => e = .returned (.tuple #[.bool (leaveR parts offs p d).1, .int .i64 (leaveR parts offs p d).2]) ∧ Below w.heap.size w w' := by
 have hu32 := Try.underlying26
 have HS := A0_ (Sp.start w)
 have hre : leaveR parts offs p d = if codeP parts offs = 0 then (if (0 ≤ p ∧ p < parts.length) ∧ (0 ≤ d ∧ d < 6) then (leavesP parts offs p d, 0) else (false, 4)) else (false, codeP parts offs) := rfl
 obtain ⟨R, hR⟩ : ∃ R, R = leaveR parts offs p d := ⟨_, rfl⟩
 rw [← hR] at hre ⊢
 by_cases c : codeP parts offs = 0
 ·obtain ⟨has, hof⟩ := code_00 c
  have hl := (code_0 c).2
  have HRD := A0_ (fun rest w' hs => readOffs0_calls w Ap cp parts hC hz Ao co offs hO hco c rest w' hs)
  rw [if_pos c] at hre
  obtain ⟨ado, ea⟩ := some_of hO (by have := (asm_of has).1; omega)
  subst ea
  have HWS := A0_ (show wrap64 ((parts.length : Int) - 1) = (parts.length : Int) - 1 by have := (asm_of has).1.2; unfold wrap64; omega)
  obtain ⟨b1, hb1⟩ : ∃ b1, b1 = inR p 0 ((parts.length : Int) - 1) := ⟨_, rfl⟩
  obtain ⟨b2, hb2⟩ : ∃ b2, b2 = inR d 0 5 := ⟨_, rfl⟩
  have HW1 := A0_ (show impl_within.f p 0 ((parts.length : Int) - 1) = some b1 by rw [hb1]; exact within_eq _ _ _)
  have HW2 := A0_ (show impl_within.f d 0 5 = some b2 by rw [hb2]; exact within_eq _ _ _)
  have hb1' : b1 = true ↔ (0 ≤ p ∧ p < parts.length) := by rw [hb1]; unfold inR; rw [Bool.and_eq_true, decide_eq_true_eq, decide_eq_true_eq]; omega
  have hb2' : b2 = true ↔ (0 ≤ d ∧ d < 6) := by rw [hb2]; unfold inR; rw [Bool.and_eq_true, decide_eq_true_eq, decide_eq_true_eq]; omega
  by_cases cc : b1 = true ∧ b2 = true
  ·obtain ⟨c1, c2⟩ := cc
   have d1 := hb1'.1 c1
   have d2 := hb2'.1 c2
   rw [if_pos ⟨d1, d2⟩] at hre
   have HRE := A0_ hre
   have HLV := A0_ (fun g gM rest w' hs => leaves_calls w Ap cp g gM parts (fr_at hC hz has) (Res.pure True) ado co offs (rdsOld hO) hl p.toNat (by omega) d d2 rest w' hs)
   rw [Int.toNat_of_nonneg d1.1] at HLV
   rw [c1] at HW1
   rw [c2] at HW2
   clear hC hz hO hco hR hre c has hof hl c1 c2 d1 d2 hb1 hb2 hb1' hb2'
   go_enter Try.func16, Try.ntmps16
   go_wp2_with (first
    | ((with_reducible refine gate_dst (N := 4) rfl ?_); refine be_ (N := 4) (cs := #[.slice Ap parts.length cp]) (t := 26) ?_; intro ga hgb_ wb_ hcb_ hbb_; replace HS := A0_ (Sp.boxed HS.out hgb_ hcb_ hbb_); clear hgb_ hcb_ hbb_; have ha0 := (cl_ HS 0 0 rfl).trans rfl)
    | (go_at_call 52; go_loud (refine (HRD.out _ _ HS.out).mono ?_; rintro e wi_ ⟨gf, gM, rfl, hs_⟩; replace HS := A0_ (hs_); clear hs_ ha0; have ha0 := (cl_ HS 3 0 rfl).trans rfl))
    | (go_at_call 53; (rw [HWS.out]; refine (impl_within.calls p 0 ((parts.length : Int) - 1) true _ HW1.out).mono ?_; rintro e ww_ ⟨rfl, hs_⟩; replace HS := A0_ (Sp.far HS.out hs_.below); clear hs_ HWS))
    | (go_at_call 53; go_loud (refine (impl_within.calls d 0 5 true _ HW2.out).mono ?_; rintro e wv_ ⟨rfl, hs_⟩; replace HS := A0_ (Sp.far HS.out hs_.below); clear hs_))
    | (go_at_call 54; go_loud (refine (HLV.out gf gM _ _ HS.out).mono ?_; rintro e wm_ ⟨rfl, hs_⟩; replace HS := A0_ (hs_); clear hs_)))
   go_ret2
   rw [HRE.out]
   exact ⟨rfl, HS.out.below⟩
  ·rw [if_neg (fun h => cc ⟨hb1'.2 h.1, hb2'.2 h.2⟩)] at hre
   have HRE := A0_ hre
   clear hC hz hO hco hR hre c has hof hl hb1 hb2 hb1' hb2'
   have hq : (b1 = false) ∨ (b1 = true ∧ b2 = false) := by cases b1 <;> cases b2 <;> simp_all
   clear cc
   rcases hq with h1 | ⟨h1, h2⟩
   ·subst h1
    go_enter Try.func16, Try.ntmps16
    go_wp2_with (first
     | ((with_reducible refine gate_dst (N := 4) rfl ?_); refine be_ (N := 4) (cs := #[.slice Ap parts.length cp]) (t := 26) ?_; intro ga hgb_ wb_ hcb_ hbb_; replace HS := A0_ (Sp.boxed HS.out hgb_ hcb_ hbb_); clear hgb_ hcb_ hbb_; have ha0 := (cl_ HS 0 0 rfl).trans rfl)
     | (go_at_call 52; go_loud (refine (HRD.out _ _ HS.out).mono ?_; rintro e wi_ ⟨gf, gM, rfl, hs_⟩; replace HS := A0_ (hs_); clear hs_ ha0; have ha0 := (cl_ HS 3 0 rfl).trans rfl))
     | (go_at_call 53; (rw [HWS.out]; refine (impl_within.calls p 0 ((parts.length : Int) - 1) false _ HW1.out).mono ?_; rintro e ww_ ⟨rfl, hs_⟩; replace HS := A0_ (Sp.far HS.out hs_.below); clear hs_ HWS)))
    go_ret2
    rw [HRE.out]
    exact ⟨rfl, HS.out.below⟩
   ·subst h1
    subst h2
    go_enter Try.func16, Try.ntmps16
    go_wp2_with (first
     | ((with_reducible refine gate_dst (N := 4) rfl ?_); refine be_ (N := 4) (cs := #[.slice Ap parts.length cp]) (t := 26) ?_; intro ga hgb_ wb_ hcb_ hbb_; replace HS := A0_ (Sp.boxed HS.out hgb_ hcb_ hbb_); clear hgb_ hcb_ hbb_; have ha0 := (cl_ HS 0 0 rfl).trans rfl)
     | (go_at_call 52; go_loud (refine (HRD.out _ _ HS.out).mono ?_; rintro e wi_ ⟨gf, gM, rfl, hs_⟩; replace HS := A0_ (hs_); clear hs_ ha0; have ha0 := (cl_ HS 3 0 rfl).trans rfl))
     | (go_at_call 53; (rw [HWS.out]; refine (impl_within.calls p 0 ((parts.length : Int) - 1) true _ HW1.out).mono ?_; rintro e ww_ ⟨rfl, hs_⟩; replace HS := A0_ (Sp.far HS.out hs_.below); clear hs_ HWS))
     | (go_at_call 53; go_loud (refine (impl_within.calls d 0 5 false _ HW2.out).mono ?_; rintro e wv_ ⟨rfl, hs_⟩; replace HS := A0_ (Sp.far HS.out hs_.below); clear hs_)))
    go_ret2
    rw [HRE.out]
    exact ⟨rfl, HS.out.below⟩
 ·have HRD := A0_ (fun rest w' hs => readOffs_calls w Ap cp parts hC hz Ao co offs hO hco rest w' hs)
  rw [if_neg c] at hre
  obtain ⟨cd, hcd⟩ : ∃ cd, cd = codeP parts offs := ⟨_, rfl⟩
  rw [← hcd] at hre HRD c
  have HRE := A0_ hre
  have c0 : (cd == 0) = false := by rw [beq_eq_false_iff_ne]; exact c
  have c1 : (cd != 0) = true := by rw [bne_iff_ne]; exact c
  have c2 : (cd = 0) = False := eq_false c
  clear hC hz hO hco hR hre c hcd
  go_enter Try.func16, Try.ntmps16
  go_wp2_with (first
   | ((with_reducible refine gate_dst (N := 4) rfl ?_); refine be_ (N := 4) (cs := #[.slice Ap parts.length cp]) (t := 26) ?_; intro ga hgb_ wb_ hcb_ hbb_; replace HS := A0_ (Sp.boxed HS.out hgb_ hcb_ hbb_); clear hgb_ hcb_ hbb_; have ha0 := (cl_ HS 0 0 rfl).trans rfl)
   | (go_at_call 52; go_loud (refine (HRD.out _ _ HS.out).mono ?_; rintro e wi_ ⟨v_, rfl, hs_⟩; replace HS := A0_ (hs_); clear hs_ ha0)))
  go_ret2
  rw [HRE.out]
  exact ⟨rfl, HS.out.below⟩
def intF.T1 : Bool × List (List Nat × List Nat) := (true, [([], []), ([0], [0]), ([1, 1], [1]), ([2], [2]), ([3, 2, 2], [2, 3]), ([2], [2]), ([5, 2], [2, 5]), ([6, 2], [2, 6]), ([7, 7, 2], [2, 7]), ([4, 8, 4, 2], [2, 4, 8]), ([9, 2], [2, 9]), ([10, 2], [2, 10]), ([2, 11], [2, 11]), ([12, 9, 0, 1, 2, 3, 4, 5, 6, 7, 8, 9, 10, 11, 12], [12])])
def intF.B1 : List Nat := [0, 1, 3, 7, 15, 7, 39, 103, 231, 511, 1023, 2047, 4095, 8191]
theorem intF.tab1 : rtab .any (opsOf Try.f14 1) = intF.T1 := by kernel_rfl
theorem intF.bits1 : waitsOk intF.T1.2 intF.B1 = true := by kernel_rfl
set_option maxHeartbeats 4000000 in
set_option maxRecDepth 100000 in
theorem iInter_calls (Ap : Option Addr) (cp : Nat) (parts : List (List Cb)) (w : World) (hC : kP.C w Ap parts.length parts) (hz : SzOk parts) :
  Calls Try.prog 14 #[.agg #[.slice Ap parts.length cp]] w fun e w' => e = .returned (.bool (intP parts)) ∧ Below w.heap.size w w' := by
 have hu32 := Try.underlying26
 have hu69 := Try.underlying94
 have HS := A0_ (Sp.start w)
 have HIA := A0_ (fun rest w' hs => iIsAsm_calls w Ap cp parts hC hz rest w' hs)
 have hre : intP parts = (asmP parts && decide ((freeP parts (zerosC parts.length)).length = 0)) := rfl
 obtain ⟨R, hR⟩ : ∃ R, R = intP parts := ⟨_, rfl⟩
 rw [← hR] at hre ⊢
 cases has : asmP parts with
 | false =>
  rw [has] at HIA hre
  have HRE := A0_ hre
  clear hC hz hR hre has
  go_enter Try.func14, Try.ntmps14
  go_wp2_with (first
   | ((with_reducible refine gate_dst (N := 1) rfl ?_); refine be_ (N := 1) (cs := #[.slice Ap parts.length cp]) (t := 26) ?_; intro ga hgb_ wb_ hcb_ hbb_; replace HS := A0_ (Sp.boxed HS.out hgb_ hcb_ hbb_); clear hgb_ hcb_ hbb_; have ha0 := (cl_ HS 0 0 rfl).trans rfl))
  have HS_ := A0_ (Sp.drew HS.out)
  clear HS ha0
  have HS := HS_
  clear HS_
  refine start_ (n := 14) (S := fun w' => w'.cell? ⟨ga, 0, none⟩ = some (.slice Ap parts.length cp)) (ds := []) #[false, false, false, false, false, false, false, false, false, false, false, false, false, false] (by kernel_rfl) rfl rfl ((cl_ HS 0 0 rfl).trans rfl) (fun hHeld => ?_)
  refine with_tabW intF.tab1 intF.bits1 (fun HT_ HW_ => ?_)
  generalize wb_.drew = wD1_ at HS hHeld ⊢
  refine tk_ 0 (some 3) ?_
  refine o1_ 1 (some 4) (fun K hK => ?_)
  refine gs_ Try.func43 #[.agg #[.slice Ap parts.length cp]] ?_
  refine (HIA.out _ _ HS.out).mono ?_
  rintro e wA11 ⟨rfl, hs_⟩
  refine ⟨_, rfl, ?_⟩
  replace HS := A0_ (hs_)
  clear hs_
  refine hK.out _ _ ((cl_ HS 0 0 rfl).trans rfl) (fun hHeld => ?_)
  clear hK K
  refine nm_ (some 4) ?_
  refine on_ 2 (some 5) ?_
  refine of_ 3 (some 6) ?_
  refine of_ 4 (some 7) ?_
  refine of_ 5 (some 8) ?_
  refine of_ 6 (some 9) ?_
  refine of_ 7 (some 10) ?_
  refine of_ 8 (some 11) ?_
  refine of_ 9 (some 12) ?_
  refine of_ 10 (some 13) ?_
  refine of_ 11 (some 14) ?_
  refine on_ 12 (some 15) ?_
  refine on_ 13 (some 2) ?_
  refine dn_ ?_
  try go_wp2
  go_ret
  rw [HRE.out]
  exact ⟨rfl, HS.out.below⟩
 | true =>
  rw [has] at HIA hre
  rw [Bool.true_and] at hre
  have HN := A0_ (show 2 ≤ parts.length ∧ parts.length ≤ 8 by have := (asm_of has).1; omega)
  have HNF := A0_ (fun rest w' hs => newFrame_calls w Ap cp parts rest w' hs)
  have HFR := A0_ (fun g gM (r : Res) (ad : Addr) (cz : Nat) (zs : List Cb) (hzs : zs = zerosC parts.length) (hr : Rds w r (some ad) zs) rest w' hs => free_calls w Ap cp g gM parts (fr_at hC hz has) r ad cz zs hr (by rw [hzs]; simp [zerosC]) rest w' hs)
  obtain ⟨F, hF⟩ : ∃ F, F = freeP parts (zerosC parts.length) := ⟨_, rfl⟩
  rw [← hF] at hre
  have HF := A0_ hF
  have HRE := A0_ hre
  clear hC hz hR hre has hF
  go_enter Try.func14, Try.ntmps14
  go_wp2_with (first
   | ((with_reducible refine gate_dst (N := 1) rfl ?_); refine be_ (N := 1) (cs := #[.slice Ap parts.length cp]) (t := 26) ?_; intro ga hgb_ wb_ hcb_ hbb_; replace HS := A0_ (Sp.boxed HS.out hgb_ hcb_ hbb_); clear hgb_ hcb_ hbb_; have ha0 := (cl_ HS 0 0 rfl).trans rfl))
  have HS_ := A0_ (Sp.drew HS.out)
  clear HS ha0
  have HS := HS_
  clear HS_
  refine start_ (n := 14) (S := fun w' => w'.cell? ⟨ga, 0, none⟩ = some (.slice Ap parts.length cp)) (ds := []) #[false, false, false, false, false, false, false, false, false, false, false, false, false, false] (by kernel_rfl) rfl rfl ((cl_ HS 0 0 rfl).trans rfl) (fun hHeld => ?_)
  refine with_tabW intF.tab1 intF.bits1 (fun HT_ HW_ => ?_)
  generalize wb_.drew = wD1_ at HS hHeld ⊢
  refine tk_ 0 (some 3) ?_
  refine o1_ 1 (some 4) (fun K hK => ?_)
  refine gs_ Try.func43 #[.agg #[.slice Ap parts.length cp]] ?_
  refine (HIA.out _ _ HS.out).mono ?_
  rintro e wA11 ⟨rfl, hs_⟩
  refine ⟨_, rfl, ?_⟩
  replace HS := A0_ (hs_)
  clear hs_
  refine hK.out _ _ ((cl_ HS 0 0 rfl).trans rfl) (fun hHeld => ?_)
  clear hK K
  refine nm_ (some 4) ?_
  refine on_ 2 (some 5) ?_
  refine tk_ 3 (some 6) ?_
  refine on_ 5 (some 8) ?_
  refine tk_ 6 (some 9) ?_
  refine on_ 7 (some 10) ?_
  refine o2_ 4 8 (some 7) (some 11) (fun K hK => ?_) (fun K hK => ?_)
  ·refine gs_ Try.func50 #[.agg #[.slice Ap parts.length cp]] ?_
   refine (HNF.out _ _ HS.out).mono ?_
   rintro e wA12 ⟨gf, gM, rfl, hs_⟩
   refine ⟨_, rfl, ?_⟩
   replace HS := A0_ (hs_)
   clear hs_
   refine hK.out _ _ ((cl_ HS 2 0 rfl).trans rfl) (fun hHeld => ?_)
   clear hK K
   refine nm_ (some 7) ?_
   refine o1_ 8 (some 11) (fun K hK => ?_)
   refine Kd.R_make_step kC _ 94 (by rfl) (N := 11) rfl 35 _ _ rfl ((parts.length : Nat) : Int) rfl rfl Try.underlying35 (.agg #[(.int .i64 0), (.int .i64 0), (.int .i64 0)]) 24 info94 rfl (by decide) (by decide) (⟨0, 0, 0⟩ : Cb) (ok := fun _ => True) (okp := fun _ => True) (k94_mkM _ _ _ (⟨0, 0, 0⟩ : Cb)) (fun _ hk => hk) trivial ?h0 ?hl (Below.refl _ _) (Nat.le_refl _) ?_
   (case h0 => omega)
   (case hl => have := HN.out; omega)
   intro vA13 wA13 ho hb hg_ hn_
   clear hg_ hn_
   rw [Int.toNat_natCast] at ho
   obtain ⟨zs, hxs_⟩ : ∃ xs_, xs_ = List.replicate (parts.length) (⟨0, 0, 0⟩ : Cb) := ⟨_, rfl⟩
   rw [← hxs_] at ho
   have Hzs := A0_ hxs_
   clear hxs_
   replace HS := A0_ (Sp.made' HS.out hb ho)
   clear hb ho
   obtain ⟨AA13, cA13, eA_⟩ := Sp.slice HS.out (i := 0) rfl
   subst eA_
   obtain ⟨adz, ea⟩ := Sp.some_ HS.out (i := 0) rfl (by rw [Hzs.out, List.length_replicate]; have := HN.out; omega)
   subst ea
   refine hK.out _ _ ((cl_ HS 3 0 rfl).trans rfl) (fun hHeld => ?_)
   clear hK K
   refine nm_ (some 11) ?_
   refine o1_ 9 (some 12) (fun K hK => ?_)
   replace HS := A0_ (Sp.arr (pre := [Res.row kC 94 w.heap.size (.slice (some adz) zs.length cA13) zs, frBlk gf gM Ap cp parts, frMemo gM parts, Res.blk ga #[.slice Ap parts.length cp] 26]) (pre' := [frBlk gf gM Ap cp parts, frMemo gM parts, Res.row kC 94 w.heap.size (.slice (some adz) zs.length cA13) zs, Res.blk ga #[.slice Ap parts.length cp] 26]) (rest := ([] : List Res)) [1, 2, 0, 3] HS.out rfl rfl)
   refine gs_ Try.func45 #[.pointer (some ⟨gf, 0, none⟩), .slice (some adz) zs.length cA13] ?_
   refine (HFR.out gf gM _ adz _ zs Hzs.out Rds.row _ _ HS.out).mono ?_
   rintro e wA14 ⟨A_, c_, rfl, hs_⟩
   refine ⟨_, rfl, ?_⟩
   have hzz : zs = zerosC parts.length := Hzs.out
   rw [hzz, ← HF.out] at hs_ ⊢
   replace HS := A0_ (hs_)
   clear hs_ hzz
   refine hK.out _ _ ((cl_ HS 4 0 rfl).trans rfl) (fun hHeld => ?_)
   clear hK K
   refine nm_ (some 12) ?_
   refine on_ 10 (some 13) ?_
   refine on_ 11 (some 14) ?_
   refine on_ 12 (some 15) ?_
   refine on_ 13 (some 2) ?_
   refine dn_ ?_
   go_wp2
   go_ret
   rw [HRE.out]
   exact ⟨congrArg (fun b => Ending.returned (Value.bool b)) (show ((F.length : Int) == 0) = decide (F.length = 0) from (by rw [Bool.eq_iff_iff]; simp)), HS.out.below⟩
  ·refine Kd.R_make_step kC _ 94 (by rfl) (N := 11) rfl 35 _ _ rfl ((parts.length : Nat) : Int) rfl rfl Try.underlying35 (.agg #[(.int .i64 0), (.int .i64 0), (.int .i64 0)]) 24 info94 rfl (by decide) (by decide) (⟨0, 0, 0⟩ : Cb) (ok := fun _ => True) (okp := fun _ => True) (k94_mkM _ _ _ (⟨0, 0, 0⟩ : Cb)) (fun _ hk => hk) trivial ?h0 ?hl (Below.refl _ _) (Nat.le_refl _) ?_
   (case h0 => omega)
   (case hl => have := HN.out; omega)
   intro vA12 wA12 ho hb hg_ hn_
   clear hg_ hn_
   rw [Int.toNat_natCast] at ho
   obtain ⟨zs, hxs_⟩ : ∃ xs_, xs_ = List.replicate (parts.length) (⟨0, 0, 0⟩ : Cb) := ⟨_, rfl⟩
   rw [← hxs_] at ho
   have Hzs := A0_ hxs_
   clear hxs_
   replace HS := A0_ (Sp.made' HS.out hb ho)
   clear hb ho
   obtain ⟨AA12, cA12, eA_⟩ := Sp.slice HS.out (i := 0) rfl
   subst eA_
   obtain ⟨adz, ea⟩ := Sp.some_ HS.out (i := 0) rfl (by rw [Hzs.out, List.length_replicate]; have := HN.out; omega)
   subst ea
   refine hK.out _ _ ((cl_ HS 1 0 rfl).trans rfl) (fun hHeld => ?_)
   clear hK K
   refine nm_ (some 11) ?_
   refine o1_ 4 (some 7) (fun K hK => ?_)
   refine gs_ Try.func50 #[.agg #[.slice Ap parts.length cp]] ?_
   refine (HNF.out _ _ HS.out).mono ?_
   rintro e wA13 ⟨gf, gM, rfl, hs_⟩
   refine ⟨_, rfl, ?_⟩
   replace HS := A0_ (hs_)
   clear hs_
   refine hK.out _ _ ((cl_ HS 3 0 rfl).trans rfl) (fun hHeld => ?_)
   clear hK K
   refine nm_ (some 7) ?_
   refine o1_ 9 (some 12) (fun K hK => ?_)
   refine gs_ Try.func45 #[.pointer (some ⟨gf, 0, none⟩), .slice (some adz) zs.length cA12] ?_
   refine (HFR.out gf gM _ adz _ zs Hzs.out Rds.row _ _ HS.out).mono ?_
   rintro e wA14 ⟨A_, c_, rfl, hs_⟩
   refine ⟨_, rfl, ?_⟩
   have hzz : zs = zerosC parts.length := Hzs.out
   rw [hzz, ← HF.out] at hs_ ⊢
   replace HS := A0_ (hs_)
   clear hs_ hzz
   refine hK.out _ _ ((cl_ HS 4 0 rfl).trans rfl) (fun hHeld => ?_)
   clear hK K
   refine nm_ (some 12) ?_
   refine on_ 10 (some 13) ?_
   refine on_ 11 (some 14) ?_
   refine on_ 12 (some 15) ?_
   refine on_ 13 (some 2) ?_
   refine dn_ ?_
   go_wp2
   go_ret
   rw [HRE.out]
   exact ⟨congrArg (fun b => Ending.returned (Value.bool b)) (show ((F.length : Int) == 0) = decide (F.length = 0) from (by rw [Bool.eq_iff_iff]; simp)), HS.out.below⟩
theorem zeros_off {parts : List (List Cb)} (h : asmP parts = true) : areOffP parts (zerosC parts.length) = true := by
 unfold areOffP
 rw [Bool.and_eq_true, Bool.and_eq_true, Bool.and_eq_true, decide_eq_true_eq, decide_eq_true_eq]
 refine ⟨by simp [zerosC], zerosC_at _ _, ?_, ?_⟩
 ·rw [List.all_eq_true]
  intro c hc
  unfold zerosC at hc
  rw [List.eq_of_mem_replicate hc]
  decide
 ·unfold asmP isAsmP at h
  simp only [Bool.and_eq_true] at h
  exact h.2.2
section
attribute [local go_sem] max2_int min2_int max_two min_two max_three min_three max_four min_four
def spec_FreeParts.f (k : Nat) (l0_0 : List (List (S94))) (l1 : List (S94)) : Option (List Int × Int) := (spec_l27Code.f k l0_0 l1).bind fun t567 => (if t567 = 0 then ((spec_l27Free.f k l0_0 l1).bind fun t568 => (some (t568, 0))) else (some (([] : List Int), t567)))
set_option maxHeartbeats 8000000 in
set_option maxRecDepth 100000 in
theorem spec_FreeParts.calls (k : Nat) (A0_0 : Option Addr) (c0_0 : Nat) (l0_0 : List (List (S94))) (A1 : Option Addr) (c1 : Nat) (l1 : List (S94)) (r1 : List Int) (r2 : Int) (w : World) (hr0_0 : Kd.C (Kd.slice 94 k94) w A0_0 l0_0.length l0_0) (hc0_0 : l0_0.length ≤ c0_0) (hr1 : Kd.C k94 w A1 l1.length l1) (hc1 : l1.length ≤ c1) (h : spec_FreeParts.f k l0_0 l1 = some (r1, r2)) :
    Calls Try.prog 27 #[.agg #[.slice A0_0 l0_0.length c0_0], .slice A1 l1.length c1] w fun e w' => ∃ v0_ : Value, e = .returned (.tuple #[v0_, .int .i64 r2]) ∧ Kd.R (Kd.int .i64) 2 w' w.heap.size (fun _ => True) v0_ r1 ∧ Below w.heap.size w w' := by
 (have hu26 := Try.underlying26); (have HR0_0 := A0_ hr0_0); (have HC0_0 := A0_ hc0_0); clear hr0_0 hc0_0; (have HR1 := A0_ hr1); (have HC1 := A0_ hc1); clear hr1 hc1; (have HB := A0_ (Below.refl w.heap.size w))
 have H : ((spec_l27Code.f k l0_0 l1).bind fun t567 => (if t567 = 0 then ((spec_l27Free.f k l0_0 l1).bind fun t568 => (some (t568, 0))) else (some (([] : List Int), t567)))) = some (r1, r2) := h
 clear h; (replace H := Option.bind_eq_some_iff.mp H); (obtain ⟨t567, A30, H⟩ := H)
 replace H : (if t567 = 0 then ((spec_l27Free.f k l0_0 l1).bind fun t568 => (some (t568, 0))) else (some (([] : List Int), t567))) = some (r1, r2) := H
 (have A3 := A0_ A30); clear A30; (have H0_ := A0_ H); clear H; (go_enter Try.func27, Try.ntmps27); (go_wp2_with (first | ((with_reducible refine gate_dst (N := 2) rfl ?_); refine be_ (N := 2) (cs := #[.slice A0_0 l0_0.length c0_0]) (t := 26) ?_; intro gb566 hg w4 hbox hb; have n0_ := A0_ (below_step bw_ hb); have n1_ := A0_ (hbox); have n2_ := A0_ ((by rw [hg]; exact (below_size bw_) : w.heap.size ≤ gb566)); have n3_ := A0_ ((by rw [hg]; exact (below_size bw_) : w.heap.size ≤ gb566)); clear HB; have HB := n0_; have BK566 := n1_; have GW566 := n2_; have GE566 := n3_; clear n0_ n1_ n2_ n3_; clear hb hbox hg; have hcz5_0 : w4.cell? ⟨gb566, 0, none⟩ = some (.slice A0_0 l0_0.length c0_0) := (blk_cell BK566.out 0).trans rfl; have hfz5_0 := blk_frozen BK566.out 0) | ((with_reducible refine gate_callee (f := 63) rfl ?_); refine gl_ (some 9) Try.func63 #[.agg #[.slice A0_0 l0_0.length c0_0], .slice A1 l1.length c1] ?_; (with_reducible refine (spec_l27Code.calls k _ _ l0_0 _ _ l1 t567 _ ?side1 ?side2 ?side3 ?side4 A3.out).mono ?_); (case side1 => exact kc_ (Kd.C_below HR0_0.out HB.out)); (case side2 => exact HC0_0.out); (case side3 => exact kc_ (Kd.C_below HR1.out HB.out)); (case side4 => exact HC1.out); rintro e w6 ⟨rfl, hb⟩; refine ⟨_, rfl, ?_⟩; have n0_ := A0_ (blk_below (g := gb566) (o := .cells #[.slice A0_0 l0_0.length c0_0] 26 (0, 0)) (bk_ BK566) hb); have n1_ := A0_ (below_step bx_ hb); clear BK566; clear HB; have BK566 := n0_; have HB := n1_; clear n0_ n1_; (try clear hb); (try clear hb2); (try clear hk); (try clear hi); refine Stop0.out ?_))); (refine Stop0.mk ?_); (have H := H0_.out); clear H0_; (by_cases c7 : t567 = 0)
 ·(rw [if_pos c7] at H); (have c7b0 : (t567 == 0) = true := beq_iff_eq.mpr c7); (have c7b1 : (t567 != 0) = false := bne_eq_false_iff_eq.mpr c7); clear c7; (replace H := Option.bind_eq_some_iff.mp H); (obtain ⟨t568, A80, H⟩ := H); (replace H : (some (t568, 0)) = some (r1, r2) := H); (have A8 := A0_ A80); clear A80; (have H0_ := A0_ H); clear H; (have hcz9_0 : w6.cell? ⟨gb566, 0, none⟩ = some (.slice A0_0 l0_0.length c0_0) := (blk_cell BK566.out 0).trans rfl); (have hfz9_0 := blk_frozen BK566.out 0); (go_wp2_with (first | ((with_reducible refine gate_callee (f := 49) rfl ?_); refine gl_ (some 15) Try.func49 #[.agg #[.slice A0_0 l0_0.length c0_0], .slice A1 l1.length c1] ?_; (with_reducible refine (spec_l27Free.calls k _ _ l0_0 _ _ l1 t568 _ ?side1 ?side2 ?side3 ?side4 A8.out).mono ?_); (case side1 => exact kc_ (Kd.C_below HR0_0.out HB.out)); (case side2 => exact HC0_0.out); (case side3 => exact kc_ (Kd.C_below HR1.out HB.out)); (case side4 => exact HC1.out); rintro e w10 ⟨v569, rfl, ho0, hb⟩; refine ⟨_, rfl, ?_⟩; have n0_ := A0_ (Kd.R_lower ho0 (below_size bx_)); have n1_ := A0_ (blk_below (g := gb566) (o := .cells #[.slice A0_0 l0_0.length c0_0] 26 (0, 0)) (bk_ BK566) hb); have n2_ := A0_ (below_step bx_ hb); clear BK566; clear HB; have HO570 := n0_; have BK566 := n1_; have HB := n2_; clear n0_ n1_ n2_; (try clear hb); (try clear hb2); (try clear hk); (try clear hi); (try clear ho0); refine Stop0.out ?_))); (refine Stop0.mk ?_); (have H := H0_.out); clear H0_; (simp only [Option.some.injEq, Prod.mk.injEq] at H); (obtain ⟨rfl, rfl⟩ := H); go_wp2; go_ret2; (exact ⟨_, by first | rfl | (simp [errW_none, errW_some] <;> rfl) | (simp [*, errW_none, errW_some] <;> rfl), by (with_reducible repeat (first | apply Ra_ | apply Rn_ | apply Rd_)); exact HO570.out, bx_⟩)
 ·(rw [if_neg c7] at H); (have c7b0 : (t567 == 0) = false := beq_eq_false_iff_ne.mpr c7); (have c7b1 : (t567 != 0) = true := bne_iff_ne.mpr c7); (simp only [Option.some.injEq, Prod.mk.injEq] at H); (obtain ⟨rfl, rfl⟩ := H); go_wp2; go_ret2; (exact ⟨_, by first | rfl | (simp [errW_none, errW_some] <;> rfl) | (simp [*, errW_none, errW_some] <;> rfl), by first | exact Kd.R_nil _ _ _ _ _ | exact Kd.N_nil _ _ _ _ _ | exact Kd.V_nil _ _ _ _ _ | exact Kd.Q_nil _ _ _ _ _ | exact Kd.S_nil _ _ _ _ _, bx_⟩)
end
section
attribute [local go_sem] max2_int min2_int max_two min_two max_three min_three max_four min_four
def spec_IsInterlocked.f (k : Nat) (l0_0 : List (List (S94))) : Option (Bool) := (spec_IsAssembly.f k l0_0).bind fun t584 => (if t584 = true then (if 0 ≤ (l0_0.length : Int) then (if ((l0_0.length : Int) : Int).toNat ≤ 11728124029610 then ((spec_l27Free.f k l0_0 (List.replicate ((l0_0.length : Int) : Int).toNat z94)).bind fun t588 => (some ((t588.length : Int) == 0))) else (none)) else (none)) else (some false))
def spec_IsInterlocked.T1 : Bool × List (List Nat × List Nat) := (true, [([], []), ([0], [0]), ([1, 1], [1]), ([2], [2]), ([2], [2]), ([4, 2], [2, 4]), ([5, 2], [2, 5]), ([6, 6, 2], [2, 6]), ([3, 7, 2, 2], [2, 3, 7]), ([8, 2], [2, 8]), ([9, 2], [2, 9]), ([2, 10], [2, 10]), ([11, 8, 0, 1, 2, 3, 4, 5, 6, 7, 8, 9, 10, 11], [11])])
def spec_IsInterlocked.B1 : List Nat := [0, 1, 3, 7, 7, 23, 55, 119, 255, 511, 1023, 2047, 4095]
theorem spec_IsInterlocked.tab1 : rtab .any (opsOf Try.f31 1) = spec_IsInterlocked.T1 := by kernel_rfl
theorem spec_IsInterlocked.bits1 : waitsOk spec_IsInterlocked.T1.2 spec_IsInterlocked.B1 = true := by kernel_rfl
set_option maxHeartbeats 8000000 in
set_option maxRecDepth 100000 in
theorem spec_IsInterlocked.calls (k : Nat) (A0_0 : Option Addr) (c0_0 : Nat) (l0_0 : List (List (S94))) (r : Bool) (w : World) (hr0_0 : Kd.C (Kd.slice 94 k94) w A0_0 l0_0.length l0_0) (hc0_0 : l0_0.length ≤ c0_0) (h : spec_IsInterlocked.f k l0_0 = some r) :
    Calls Try.prog 31 #[.agg #[.slice A0_0 l0_0.length c0_0]] w fun e w' => e = .returned (.bool r) ∧ Below w.heap.size w w' := by
 (have hu26 := Try.underlying26); (have HR0_0 := A0_ hr0_0); (have HC0_0 := A0_ hc0_0); clear hr0_0 hc0_0; (have HB := A0_ (Below.refl w.heap.size w))
 have H : ((spec_IsAssembly.f k l0_0).bind fun t584 => (if t584 = true then (if 0 ≤ (l0_0.length : Int) then (if ((l0_0.length : Int) : Int).toNat ≤ 11728124029610 then ((spec_l27Free.f k l0_0 (List.replicate ((l0_0.length : Int) : Int).toNat z94)).bind fun t588 => (some ((t588.length : Int) == 0))) else (none)) else (none)) else (some false))) = some r := h
 clear h; (replace H := Option.bind_eq_some_iff.mp H); (obtain ⟨t584, A20, H⟩ := H); (try dsimp only at H); (have A2 := A0_ A20); clear A20; (by_cases c3 : t584 = true)
 ·subst c3; (have H1 := H); (rw [if_pos rfl] at H1); clear H; (have H := H1); clear H1; (by_cases c4 : 0 ≤ (l0_0.length : Int))
  ·(rw [if_pos c4] at H); (have c4b0 := eq_true c4); (have c4b1 : decide (0 ≤ (l0_0.length : Int)) = true := decide_eq_true c4); clear c4; (by_cases c5 : ((l0_0.length : Int) : Int).toNat ≤ 11728124029610)
   ·(rw [if_pos c5] at H); (have c5b0 := eq_true c5); (have c5b1 : decide (((l0_0.length : Int) : Int).toNat ≤ 11728124029610) = true := decide_eq_true c5); clear c5; (obtain ⟨y585, hy585⟩ : ∃ y_ : List (S94), y_ = (List.replicate ((l0_0.length : Int) : Int).toNat z94) := ⟨_, rfl⟩)
    replace H : ((spec_l27Free.f k l0_0 y585).bind fun t588 => (some ((t588.length : Int) == 0))) = some r := by first | (rw [hy585]; with_reducible exact H) | (have H2_ := (Option.bind_some _ _).symm.trans H; rw [hy585]; with_reducible exact H2_) | (have H2_ := (Option.bind_some _ _).symm.trans H; with_reducible exact H2_) | with_reducible exact H | (rw [hy585]; exact H) | exact H
    (have Ny585 := A0_ hy585); clear hy585; (replace H := Option.bind_eq_some_iff.mp H); (obtain ⟨t588, A60, H⟩ := H); (try dsimp only at H); (have A6 := A0_ A60); clear A60; (obtain rfl := Option.some.inj H); (go_enter Try.func31, Try.ntmps31); (try go_wp2_with (first | ((with_reducible refine gate_dst (N := 1) rfl ?_); (try (refine gate_guard (by rfl) ?_; dsimp only)); refine be_ (N := 1) (cs := #[.slice A0_0 l0_0.length c0_0]) (t := 26) ?_; intro gb583 hg w7 hbox hb; have n0_ := A0_ (below_step bw_ hb); have n1_ := A0_ (hbox); have n2_ := A0_ ((by rw [hg]; exact (below_size bw_) : w.heap.size ≤ gb583)); have n3_ := A0_ ((by rw [hg]; exact (below_size bw_) : w.heap.size ≤ gb583)); clear HB; have HB := n0_; have BK583 := n1_; have GW583 := n2_; have GE583 := n3_; clear n0_ n1_ n2_ n3_; clear hb hbox hg))); (have n0_ := A0_ (blk_drew BK583.out)); (have n1_ := A0_ (below_drew1 HB.out)); clear BK583; clear HB; (have BK583 := n0_); (have HB := n1_); clear n0_ n1_
    refine start_ (n := 13) (S := fun w' => w'.cell? ⟨gb583, 0, none⟩ = some (.slice A0_0 l0_0.length c0_0)) (ds := []) #[ff,ff,ff,ff,ff,ff,ff,ff,ff,ff,ff,ff,ff] (by kernel_rfl) rfl rfl ((blk_cell BK583.out 0).trans rfl) (fun hHeld => ?_); refine with_tabW spec_IsInterlocked.tab1 spec_IsInterlocked.bits1 (fun HT_ HW_ => ?_)
    (generalize w7.drew = w8 at BK583 HB hHeld ⊢)
    refine take_ (i := 0) (N := some 3) (v := ?_) (a' := ?_) #[tt,ff,ff,ff,ff,ff,ff,ff,ff,ff,ff,ff,ff] rfl rfl (take_ofW HT_.out HW_.out (by kernel_rfl)) (fun _ _ _ h => h) (Or.inl ⟨by rfl, ?_⟩) hHeld ?_ ?_
    rotate_left
    ·intro w' s0; go_simp; with_reducible rfl
    rotate_left
    ·(simp only [Act.put, sia_, sz_, ss_, i64_w, i32_w]); rfl
    refine o1_ 1 (some 4) (fun K hK => ?_)
    (refine gs_ Try.func55 #[.agg #[.slice A0_0 l0_0.length c0_0]] ?_); (with_reducible refine (spec_IsAssembly.calls k _ _ l0_0 true _ ?side1 ?side2 A2.out).mono ?_); ((case side1 => exact kc_ (Kd.C_below HR0_0.out HB.out))); ((case side2 => exact HC0_0.out)); (rintro e w9 ⟨rfl, hb⟩); (refine ⟨_, rfl, ?_⟩); (have n0_ := A0_ (blk_below (g := gb583) (o := .cells #[.slice A0_0 l0_0.length c0_0] 26 (0, 0)) (bk_ BK583) hb)); (have n1_ := A0_ (below_step bx_ hb)); clear BK583; clear HB; (have BK583 := n0_); (have HB := n1_); clear n0_ n1_; ((try clear hb)); ((try clear hb2)); ((try clear hk)); ((try clear hi))
    refine hK.out _ _ ((blk_cell BK583.out 0).trans rfl) (fun hHeld => ?_)
    clear hK K; (refine nm_ (some 4) ?_); (refine on_ 2 (some 5) ?_); (refine on_ 4 (some 7) ?_)
    refine take_ (i := 3) (N := some 6) (v := ?_) (a' := ?_) #[tt,tt,tt,tt,tt,ff,ff,ff,ff,ff,ff,ff,ff] rfl rfl (take_ofW HT_.out HW_.out (by kernel_rfl)) (fun _ _ _ h => h) (Or.inl ⟨by rfl, ?_⟩) hHeld ?_ ?_
    rotate_left
    ·intro w' s0; go_simp; with_reducible rfl
    rotate_left
    ·(simp only [Act.put, sia_, sz_, ss_, i64_w, i32_w]); rfl
    refine take_ (i := 5) (N := some 8) (v := ?_) (a' := ?_) #[tt,tt,tt,tt,tt,tt,ff,ff,ff,ff,ff,ff,ff] rfl rfl (take_ofW HT_.out HW_.out (by kernel_rfl)) (fun _ _ _ h => h) (Or.inl ⟨by rfl, ?_⟩) hHeld ?_ ?_
    rotate_left
    ·intro w' s0; go_simp; with_reducible rfl
    rotate_left
    ·(simp only [Act.put, sia_, sz_, ss_, i64_w, i32_w]); rfl
    (refine on_ 6 (some 9) ?_)
    refine o1_ 7 (some 10) (fun K hK => ?_)
    refine Kd.R_make_step k94 _ 94 (by rfl) (N := 10) rfl 35 _ _ rfl (l0_0.length : Int) rfl rfl Try.underlying35 (.agg #[(.int .i64 0), (.int .i64 0), (.int .i64 0)]) 24 info94 rfl (by decide) (by omega) z94 (ok := fun _ => True) (okp := fun _ => True) (k94_mkM _ _ _ z94 ) (fun _ hk => hk) trivial (of_decide_eq_true as_) (Nat.le_trans (Nat.mul_le_mul_right _ (of_decide_eq_true as_ : (l0_0.length : Int).toNat ≤ 11728124029610)) (by omega)) (Below.refl _ _) (Nat.le_refl _) ?_
    intro v586 w10 ho11 hb hg_ hnew_; clear hg_ hnew_; ((first | rw [← Ny585.out] at ho11 | (simp only [Int.reduceToNat] at ho11; rw [← Ny585.out] at ho11))); (have n0_ := A0_ (Kd.R_lower ho11 (below_size bx_))); (have n1_ := A0_ (blk_below (g := gb583) (o := .cells #[.slice A0_0 l0_0.length c0_0] 26 (0, 0)) (bk_ BK583) hb)); (have n2_ := A0_ (below_step bx_ hb)); clear BK583; clear HB; (have HO587 := n0_); (have BK583 := n1_); (have HB := n2_); clear n0_ n1_ n2_; clear hb ho11; (obtain ⟨Ao12, co12, eo12⟩ := Kd.R_slice HO587.out); ((first | subst eo12 | (injection eo12 with f1_ f2_ f3_; have f4_ := f1_.symm; have f5_ := f3_.symm; clear f1_ f2_ f3_; subst f4_; subst f5_)))
    refine hK.out _ _ ((blk_cell BK583.out 0).trans rfl) (fun hHeld => ?_)
    clear hK K; (refine nm_ (some 10) ?_)
    refine o1_ 8 (some 11) (fun K hK => ?_)
    (refine gs_ Try.func49 #[.agg #[.slice A0_0 l0_0.length c0_0], .slice Ao12 y585.length co12] ?_); (with_reducible refine (spec_l27Free.calls k _ _ l0_0 _ _ y585 t588 _ ?side1 ?side2 ?side3 ?side4 A6.out).mono ?_); ((case side1 => exact kc_ (Kd.C_below HR0_0.out HB.out))); ((case side2 => exact HC0_0.out)); ((case side3 => exact kc_ (Kd.R_reads' HO587.out).2.2)); ((case side4 => exact (Kd.R_reads' HO587.out).2.1)); (rintro e w13 ⟨v589, rfl, ho0, hb⟩); (refine ⟨_, rfl, ?_⟩); (have n0_ := A0_ (Kd.R_below (by (with_reducible repeat (first | apply Ra_ | apply Rn_ | apply Rd_)); exact HO587.out) hb)); (have n1_ := A0_ (Kd.R_lower ho0 (below_size bx_))); (have n2_ := A0_ (blk_below (g := gb583) (o := .cells #[.slice A0_0 l0_0.length c0_0] 26 (0, 0)) (bk_ BK583) hb)); (have n3_ := A0_ (below_step bx_ hb)); clear HO587; clear BK583; clear HB; (have HO587 := n0_); (have HO590 := n1_); (have BK583 := n2_); (have HB := n3_); clear n0_ n1_ n2_ n3_; ((try clear hb)); ((try clear hb2)); ((try clear hk)); ((try clear hi)); ((try clear ho0)); (obtain ⟨Ao14, co14, eo14⟩ := Kd.R_slice HO590.out); ((first | subst eo14 | (injection eo14 with f1_ f2_ f3_; have f4_ := f1_.symm; have f5_ := f3_.symm; clear f1_ f2_ f3_; subst f4_; subst f5_)))
    refine hK.out _ _ ((blk_cell BK583.out 0).trans rfl) (fun hHeld => ?_)
    clear hK K; (refine nm_ (some 11) ?_); (refine on_ 9 (some 12) ?_); (refine on_ 10 (some 13) ?_); (refine on_ 11 (some 14) ?_); (refine on_ 12 (some 2) ?_); (refine dn_ ?_); (try go_wp2); go_ret; (exact ⟨er_, bx_⟩)
   ·(rw [if_neg c5] at H); (exact absurd H (by simp))
  ·(rw [if_neg c4] at H); (exact absurd H (by simp))
 ·(replace c3 := Bool.eq_false_iff.mpr c3); subst c3; (have H1 : (some false) = some r := by rw [if_neg (show ¬ (false = true) by decide)] at H; exact H); clear H; (have H := H1); clear H1; (obtain rfl := Option.some.inj H); (go_enter Try.func31, Try.ntmps31); (try go_wp2_with (first | ((with_reducible refine gate_dst (N := 1) rfl ?_); (try (refine gate_guard (by rfl) ?_; dsimp only)); refine be_ (N := 1) (cs := #[.slice A0_0 l0_0.length c0_0]) (t := 26) ?_; intro gb583 hg w15 hbox hb; have n0_ := A0_ (below_step bw_ hb); have n1_ := A0_ (hbox); have n2_ := A0_ ((by rw [hg]; exact (below_size bw_) : w.heap.size ≤ gb583)); have n3_ := A0_ ((by rw [hg]; exact (below_size bw_) : w.heap.size ≤ gb583)); clear HB; have HB := n0_; have BK583 := n1_; have GW583 := n2_; have GE583 := n3_; clear n0_ n1_ n2_ n3_; clear hb hbox hg))); (have n0_ := A0_ (blk_drew BK583.out)); (have n1_ := A0_ (below_drew1 HB.out)); clear BK583; clear HB; (have BK583 := n0_); (have HB := n1_); clear n0_ n1_
  refine start_ (n := 13) (S := fun w' => w'.cell? ⟨gb583, 0, none⟩ = some (.slice A0_0 l0_0.length c0_0)) (ds := []) #[ff,ff,ff,ff,ff,ff,ff,ff,ff,ff,ff,ff,ff] (by kernel_rfl) rfl rfl ((blk_cell BK583.out 0).trans rfl) (fun hHeld => ?_); refine with_tabW spec_IsInterlocked.tab1 spec_IsInterlocked.bits1 (fun HT_ HW_ => ?_)
  (generalize w15.drew = w16 at BK583 HB hHeld ⊢)
  refine take_ (i := 0) (N := some 3) (v := ?_) (a' := ?_) #[tt,ff,ff,ff,ff,ff,ff,ff,ff,ff,ff,ff,ff] rfl rfl (take_ofW HT_.out HW_.out (by kernel_rfl)) (fun _ _ _ h => h) (Or.inl ⟨by rfl, ?_⟩) hHeld ?_ ?_
  rotate_left
  ·intro w' s0; go_simp; with_reducible rfl
  rotate_left
  ·(simp only [Act.put, sia_, sz_, ss_, i64_w, i32_w]); rfl
  refine o1_ 1 (some 4) (fun K hK => ?_)
  (refine gs_ Try.func55 #[.agg #[.slice A0_0 l0_0.length c0_0]] ?_); (with_reducible refine (spec_IsAssembly.calls k _ _ l0_0 false _ ?side1 ?side2 A2.out).mono ?_); ((case side1 => exact kc_ (Kd.C_below HR0_0.out HB.out))); ((case side2 => exact HC0_0.out)); (rintro e w17 ⟨rfl, hb⟩); (refine ⟨_, rfl, ?_⟩); (have n0_ := A0_ (blk_below (g := gb583) (o := .cells #[.slice A0_0 l0_0.length c0_0] 26 (0, 0)) (bk_ BK583) hb)); (have n1_ := A0_ (below_step bx_ hb)); clear BK583; clear HB; (have BK583 := n0_); (have HB := n1_); clear n0_ n1_; ((try clear hb)); ((try clear hb2)); ((try clear hk)); ((try clear hi))
  refine hK.out _ _ ((blk_cell BK583.out 0).trans rfl) (fun hHeld => ?_)
  clear hK K; (refine nm_ (some 4) ?_); (refine on_ 2 (some 5) ?_); (refine of_ 3 (some 6) ?_); (refine of_ 4 (some 7) ?_); (refine of_ 5 (some 8) ?_); (refine of_ 6 (some 9) ?_); (refine of_ 7 (some 10) ?_); (refine of_ 8 (some 11) ?_); (refine of_ 9 (some 12) ?_); (refine of_ 10 (some 13) ?_); (refine on_ 11 (some 14) ?_); (refine on_ 12 (some 2) ?_); (refine dn_ ?_); (try go_wp2); go_ret; (exact ⟨er_, bx_⟩)
end
section
attribute [local go_sem] max2_int min2_int max_two min_two max_three min_three max_four min_four
def laws_hasInt.l0 : Nat → List Int → Int → Int → Option (Bool)
  | 0, _, _, _ => none
  | k + 1, x0, x1, x5 => if x5 < (x0.length : Int) then (if 0 ≤ x5 then (if (rd x0 x5) = x1 then (some true) else (laws_hasInt.l0 k x0 x1 (wrap64 (x5 + 1)))) else (none)) else (some false)
def laws_hasInt.f (k : Nat) (l0 : List Int) (a1 : Int) : Option (Bool) := laws_hasInt.l0 k l0 a1 0
set_option maxHeartbeats 8000000 in
set_option maxRecDepth 100000 in
theorem laws_hasInt.calls (k : Nat) (A0 : Option Addr) (c0 : Nat) (l0 : List Int) (a1 : Int) (r : Bool) (w : World) (hr0 : Kd.C (Kd.int .i64) w A0 l0.length l0) (hc0 : l0.length ≤ c0) (h : laws_hasInt.f k l0 a1 = some r) :
    Calls Try.prog 30 #[.slice A0 l0.length c0, .int .i64 a1] w fun e w' => e = .returned (.bool r) ∧ Drawn0 w w' := by
 (have HR0 := A0_ hr0); (have HC0 := A0_ hc0); clear hr0 hc0; (have H : (laws_hasInt.l0 k l0 a1 0) = some r := h); clear h; (have H' := A0_ H); clear H; (go_enter Try.func30, Try.ntmps30); go_wp2
 go_loopg [5] k (fun kq v5 w' => ∃ (x5_1 : Int), v5 = .int .i64 x5_1 ∧ Aside0 (laws_hasInt.l0 kq l0 a1 x5_1 = some r) ∧ Aside0 (kq ≤ k) ∧ Drawn0 w w')
 case atStart => exact ⟨(0), (by first | rfl | (simp; done) | (simp [*]; done)), H', ⟨Nat.le_refl _⟩, by repeat (first | exact Drawn0.refl _ | apply Drawn0.step)⟩
 case round =>
  clear H'; (try clear p2); (obtain ⟨x5_1, rfl, HA, HK1, ⟨m1, rfl⟩⟩ := hrel)
  cases gk with
  | zero => exact absurd HA.out (by simp [laws_hasInt.l0])
  | succ k1 =>
   (have H := HA.out); clear HA; (simp only [laws_hasInt.l0] at H); (by_cases c3 : x5_1 < (l0.length : Int))
   ·(rw [if_pos c3] at H); (have c3b0 : decide (x5_1 < (l0.length : Int)) = true := decide_eq_true c3); clear c3; (by_cases c4 : 0 ≤ x5_1)
    ·(rw [if_pos c4] at H); (have c4b0 : decide (0 ≤ x5_1) = true := decide_eq_true c4); clear c4; (by_cases c5 : (rd l0 x5_1) = a1)
     ·(rw [if_pos c5] at H); (have c5b0 : ((rd l0 x5_1) == a1) = true := beq_iff_eq.mpr c5); (have c5b1 : ((rd l0 x5_1) != a1) = false := bne_eq_false_iff_eq.mpr c5); clear c5; (obtain rfl := Option.some.inj H); (have p582 : 0 ≤ (x5_1 : Int) := of_decide_eq_true as_); (have q582 : x5_1 < (l0.length : Int) := of_decide_eq_true as_); (obtain ⟨ad582, e582, hx582_0⟩ := Kd.at_int HR0.out x5_1 p582 q582); (cases e582); (replace p582 := eq_true p582); (replace q582 := eq_true q582); go_wp2; go_ret; (exact ⟨by first | rfl | (simp; done) | (simp [*]; done), by repeat (first | exact Drawn0.refl _ | apply Drawn0.step)⟩)
     ·(rw [if_neg c5] at H); (have c5b0 : ((rd l0 x5_1) == a1) = false := beq_eq_false_iff_ne.mpr c5); (have c5b1 : ((rd l0 x5_1) != a1) = true := bne_iff_ne.mpr c5); (have H' := A0_ H); clear H; (have p582 : 0 ≤ (x5_1 : Int) := of_decide_eq_true as_); (have q582 : x5_1 < (l0.length : Int) := of_decide_eq_true as_); (obtain ⟨ad582, e582, hx582_0⟩ := Kd.at_int HR0.out x5_1 p582 q582); (cases e582); (replace p582 := eq_true p582); (replace q582 := eq_true q582); go_wp2; (go_roundg k1)
      case measure => have := HK1.out; omega
      case rel => exact ⟨(wrap64 (x5_1 + 1)), (by first | rfl | (simp; done) | (simp [*]; done)), H', ⟨by have := HK1.out; omega⟩, by repeat (first | exact Drawn0.refl _ | apply Drawn0.step)⟩
    ·(rw [if_neg c4] at H); (exact absurd H (by simp))
   ·(rw [if_neg c3] at H); (have c3b0 : decide (x5_1 < (l0.length : Int)) = false := decide_eq_false c3); clear c3; (obtain rfl := Option.some.inj H); go_wp2; go_ret; (exact ⟨by first | rfl | (simp; done) | (simp [*]; done), by repeat (first | exact Drawn0.refl _ | apply Drawn0.step)⟩)
end
theorem code_k {parts : List (List Cb)} (hz : SzOk parts) (offs : List Cb) (k : Nat) : spec_l27Code.f k parts offs = some (codeP parts offs) := code_ev hz offs
theorem off_near {parts : List (List Cb)} {offs : List Cb} (h : codeP parts offs = 0) : ∀ j : Nat, j < offs.length → inCb (oAt offs j) (-12) 12 = true := by
 have h1 := (code_00 h).2
 unfold areOffP at h1
 rw [Bool.and_eq_true, Bool.and_eq_true, Bool.and_eq_true, List.all_eq_true] at h1
 intro j hj
 have e : oAt offs j = offs[j] := by simp [oAt, List.getD_eq_getElem?_getD, hj]
 rw [e]
 exact h1.2.2.1 _ (List.getElem_mem hj)
theorem free_of {parts : List (List Cb)} (hz : SzOk parts) {offs : List Cb} (h : codeP parts offs = 0) : Ev (fun k => spec_l27Free.f k parts offs) (freeP parts offs) := by
 have ha := (code_00 h).1
 exact free_ev parts offs (code_0 h).2 (by have := (asm_of ha).1; omega) hz.each (fun p hp => ((asm_of ha).2 p hp).2) (off_near h)
theorem sfree_ev {parts : List (List Cb)} (hz : SzOk parts) (offs : List Cb) : Ev (fun k => spec_FreeParts.f k parts offs) (freeR parts offs) := by
 unfold spec_FreeParts.f freeR
 simp only [code_k hz, Option.bind_some]
 by_cases c : codeP parts offs = 0
 ·rw [if_pos c]
  simp only [c, if_true]
  exact Ev.bind (free_of hz c) (Ev.now _)
 ·rw [if_neg c]
  simp only [c, if_false]
  exact Ev.now _
theorem sint_ev {parts : List (List Cb)} (hz : SzOk parts) : Ev (fun k => spec_IsInterlocked.f k parts) (intP parts) := by
 unfold spec_IsInterlocked.f intP
 have h1 : ∀ k, spec_IsAssembly.f k parts = some (asmP parts) := fun k => by unfold spec_IsAssembly.f; rw [if_pos ⟨hz.len, hz.each⟩, asm_same]
 simp only [h1, Option.bind_some]
 by_cases a : asmP parts = true
 ·have hn := (asm_of a).1
  simp only [a, if_true, Bool.true_and, show (0 : Int) ≤ (parts.length : Int) from by omega, Int.toNat_natCast, show parts.length ≤ 11728124029610 from by omega]
  have hc : codeP parts (zerosC parts.length) = 0 := by unfold codeP; rw [if_pos a, if_pos (zeros_off a)]
  refine Ev.bind (free_of hz hc) ?_
  rw [show decide ((freeP parts (zerosC parts.length)).length = 0) = (((freeP parts (zerosC parts.length)).length : Int) == 0) by rw [Bool.eq_iff_iff]; simp]
  exact Ev.now _
 ·have a' : asmP parts = false := by cases h : asmP parts with | false => rfl | true => exact absurd h a
  simp only [a', Bool.false_eq_true, if_false, Bool.false_and]
  exact Ev.now _
theorem hasInt_ev (l : List Int) (x : Int) (h : l.length ≤ 10000000) : Ev (fun k => laws_hasInt.f k l x) (l.contains x) := by
 unfold laws_hasInt.f
 have key : ∃ r, r = l.contains x ∧ Ev (fun k => laws_hasInt.l0 k l x 0) r := by
  refine ev_inv0 l.length (fun (_ : Unit) j => ∀ i, i < j → l.getD i 0 ≠ x) (fun r => r = l.contains x) (fun _ i k => laws_hasInt.l0 k l x i) (fun s hi => ?_) (fun s j hj hi => ?_) () (fun i hi => by omega)
  ·refine ⟨false, ?_, Ev.step (f := fun _ => some false) (fun k => by simp only [laws_hasInt.l0]; rw [if_neg (by omega)]) (Ev.now _)⟩
   symm
   rw [Bool.eq_false_iff]
   intro hc
   rw [List.contains_iff_mem] at hc
   obtain ⟨i, hi2, e⟩ := List.getElem_of_mem hc
   exact hi i hi2 (by rw [getD_at l 0 i hi2]; exact e)
  ·by_cases c : l[j] = x
   ·refine .inl ⟨true, ?_, Ev.succ ?_⟩
    ·symm
     rw [List.contains_iff_mem, ← c]
     exact List.getElem_mem hj
    ·simp only [laws_hasInt.l0, show (j : Int) < (l.length : Int) from by omega, show (0 : Int) ≤ (j : Int) from by omega, if_true, rd_nat l j hj, c]
     exact Ev.now _
   ·refine .inr ⟨(), fun i hi2 => ?_, fun r h2 => Ev.succ ?_⟩
    ·by_cases e : i = j
     ·subst e; rw [getD_at l 0 i hj]; exact c
     ·exact hi i (by omega)
    ·simp only [laws_hasInt.l0, show (j : Int) < (l.length : Int) from by omega, show (0 : Int) ≤ (j : Int) from by omega, if_true, rd_nat l j hj, c, if_false, wrap_succ j (by omega)]
     exact h2
 obtain ⟨r, hr, he⟩ := key
 rw [← hr]
 exact he
theorem free_has (parts : List (List Cb)) (offs : List Cb) (k : Nat) (hk : k < 6 * parts.length) : (freeP parts offs).contains (k : Int) = leavesP parts offs ((k : Int) / 6) ((k : Int) % 6) := by
 rw [Bool.eq_iff_iff, List.contains_iff_mem]
 unfold freeP freeK
 rw [List.mem_map]
 constructor
 ·rintro ⟨j, hj, e⟩
  obtain rfl : j = k := by omega
  have := (List.mem_filter.1 hj).2
  exact this
 ·intro h
  exact ⟨k, List.mem_filter.2 ⟨List.mem_range.2 hk, h⟩, rfl⟩
theorem leave_at {parts : List (List Cb)} {offs : List Cb} (h : codeP parts offs = 0) (k : Nat) (hk : k < 6 * parts.length) : leaveR parts offs ((k : Int) / 6) ((k : Int) % 6) = (leavesP parts offs ((k : Int) / 6) ((k : Int) % 6), 0) := by
 unfold leaveR
 rw [if_pos h, if_pos (by omega)]
set_option maxHeartbeats 4000000 in
set_option maxRecDepth 100000 in
theorem sLeave_calls (Ap : Option Addr) (cp : Nat) (parts : List (List Cb)) (Ao : Option Addr) (co : Nat) (offs : List Cb) (p d : Int) (w : World) (hC : kP.C w Ap parts.length parts) (hcp : parts.length ≤ cp) (hz : SzOk parts) (hO : kC.C w Ao offs.length offs) (hco : offs.length ≤ co) :
  Calls Try.prog 29 #[.agg #[.slice Ap parts.length cp], .slice Ao offs.length co, .int .i64 p, .int .i64 d] w fun e w' => e = .returned (.tuple #[.bool (leaveR parts offs p d).1, .int .i64 (leaveR parts offs p d).2]) ∧ Below w.heap.size w w' := by
 have hu32 := Try.underlying26
 have HS := A0_ (Sp.start w)
 have HCD := A0_ (fun w1 (hb : Below w.heap.size w w1) => spec_l27Code.calls 0 Ap cp parts Ao co offs (codeP parts offs) w1 (Kd.C_below hC hb) hcp (Kd.C_below hO hb) hco (code_k hz offs 0))
 have hre : leaveR parts offs p d = if codeP parts offs = 0 then (if (0 ≤ p ∧ p < parts.length) ∧ (0 ≤ d ∧ d < 6) then (leavesP parts offs p d, 0) else (false, 4)) else (false, codeP parts offs) := rfl
 obtain ⟨R, hR⟩ : ∃ R, R = leaveR parts offs p d := ⟨_, rfl⟩
 obtain ⟨cd, hcd⟩ : ∃ cd, cd = codeP parts offs := ⟨_, rfl⟩
 rw [← hR] at hre ⊢
 rw [← hcd] at hre HCD
 by_cases c : cd = 0
 ·subst c
  have c' := hcd.symm
  have has := (code_00 c').1
  have hn := (asm_of has).1
  rw [if_pos rfl] at hre
  have HWS := A0_ (show wrap64 ((parts.length : Int) - 1) = (parts.length : Int) - 1 by unfold wrap64; omega)
  obtain ⟨b1, hb1⟩ : ∃ b1, b1 = inR p 0 ((parts.length : Int) - 1) := ⟨_, rfl⟩
  obtain ⟨b2, hb2⟩ : ∃ b2, b2 = inR d 0 5 := ⟨_, rfl⟩
  have HW1 := A0_ (show spec_l01In.f p 0 ((parts.length : Int) - 1) = some b1 by rw [hb1]; exact in_eq _ _ _)
  have HW2 := A0_ (show spec_l01In.f d 0 5 = some b2 by rw [hb2]; exact in_eq _ _ _)
  have hb1' : b1 = true ↔ (0 ≤ p ∧ p < parts.length) := by rw [hb1]; unfold inR; rw [Bool.and_eq_true, decide_eq_true_eq, decide_eq_true_eq]; omega
  have hb2' : b2 = true ↔ (0 ≤ d ∧ d < 6) := by rw [hb2]; unfold inR; rw [Bool.and_eq_true, decide_eq_true_eq, decide_eq_true_eq]; omega
  by_cases cc : b1 = true ∧ b2 = true
  ·obtain ⟨c1, c2⟩ := cc
   have d1 := hb1'.1 c1
   have d2 := hb2'.1 c2
   rw [if_pos ⟨d1, d2⟩] at hre
   have HRE := A0_ hre
   have hle := leaves_ev parts offs (code_0 c').2 (by omega) hz.each (fun q hq => ((asm_of has).2 q hq).2) (off_near c') p.toNat (by omega) d d2
   rw [Int.toNat_of_nonneg d1.1] at hle
   obtain ⟨KL, hKL⟩ := hle.rounds
   have HLV := A0_ (fun w1 (hb : Below w.heap.size w w1) => spec_l27Leaves.calls KL Ap cp parts Ao co offs p d _ w1 (Kd.C_below hC hb) hcp (Kd.C_below hO hb) hco hKL)
   rw [c1] at HW1
   rw [c2] at HW2
   clear hC hcp hz hO hco hR hre hcd c' has hn c1 c2 d1 d2 hb1 hb2 hb1' hb2' hle hKL
   go_enter Try.func29, Try.ntmps29
   go_wp2_with (first
    | ((with_reducible refine gate_dst (N := 4) rfl ?_); refine be_ (N := 4) (cs := #[.slice Ap parts.length cp]) (t := 26) ?_; intro ga hgb_ wb_ hcb_ hbb_; replace HS := A0_ (Sp.boxed HS.out hgb_ hcb_ hbb_); clear hgb_ hcb_ hbb_; have ha0 := (cl_ HS 0 0 rfl).trans rfl)
    | (go_at_call 63; (refine (HCD.out _ HS.out.below).mono ?_; rintro e wi_ ⟨rfl, hs_⟩; replace HS := A0_ (Sp.far HS.out hs_); clear hs_ ha0; have ha0 := (cl_ HS 0 0 rfl).trans rfl))
    | (go_at_call 64; (rw [HWS.out]; refine (spec_l01In.calls p 0 ((parts.length : Int) - 1) true _ HW1.out).mono ?_; rintro e ww_ ⟨rfl, hs_⟩; replace HS := A0_ (Sp.far HS.out hs_.below); clear hs_ HWS ha0; have ha0 := (cl_ HS 0 0 rfl).trans rfl))
    | (go_at_call 64; (refine (spec_l01In.calls d 0 5 true _ HW2.out).mono ?_; rintro e wv_ ⟨rfl, hs_⟩; replace HS := A0_ (Sp.far HS.out hs_.below); clear hs_ ha0; have ha0 := (cl_ HS 0 0 rfl).trans rfl))
    | (go_at_call 65; (refine (HLV.out _ HS.out.below).mono ?_; rintro e wm_ ⟨rfl, hs_⟩; replace HS := A0_ (Sp.far HS.out hs_); clear hs_ ha0)))
   go_ret2
   rw [HRE.out]
   exact ⟨rfl, HS.out.below⟩
  ·rw [if_neg (fun h => cc ⟨hb1'.2 h.1, hb2'.2 h.2⟩)] at hre
   have HRE := A0_ hre
   clear hC hcp hz hO hco hR hre hcd c' has hn hb1 hb2 hb1' hb2'
   have hq : (b1 = false) ∨ (b1 = true ∧ b2 = false) := by cases b1 <;> cases b2 <;> simp_all
   clear cc
   rcases hq with h1 | ⟨h1, h2⟩
   ·subst h1
    go_enter Try.func29, Try.ntmps29
    go_wp2_with (first
     | ((with_reducible refine gate_dst (N := 4) rfl ?_); refine be_ (N := 4) (cs := #[.slice Ap parts.length cp]) (t := 26) ?_; intro ga hgb_ wb_ hcb_ hbb_; replace HS := A0_ (Sp.boxed HS.out hgb_ hcb_ hbb_); clear hgb_ hcb_ hbb_; have ha0 := (cl_ HS 0 0 rfl).trans rfl)
     | (go_at_call 63; (refine (HCD.out _ HS.out.below).mono ?_; rintro e wi_ ⟨rfl, hs_⟩; replace HS := A0_ (Sp.far HS.out hs_); clear hs_ ha0; have ha0 := (cl_ HS 0 0 rfl).trans rfl))
     | (go_at_call 64; (rw [HWS.out]; refine (spec_l01In.calls p 0 ((parts.length : Int) - 1) false _ HW1.out).mono ?_; rintro e ww_ ⟨rfl, hs_⟩; replace HS := A0_ (Sp.far HS.out hs_.below); clear hs_ HWS ha0; have ha0 := (cl_ HS 0 0 rfl).trans rfl)))
    go_ret2
    rw [HRE.out]
    exact ⟨rfl, HS.out.below⟩
   ·subst h1
    subst h2
    go_enter Try.func29, Try.ntmps29
    go_wp2_with (first
     | ((with_reducible refine gate_dst (N := 4) rfl ?_); refine be_ (N := 4) (cs := #[.slice Ap parts.length cp]) (t := 26) ?_; intro ga hgb_ wb_ hcb_ hbb_; replace HS := A0_ (Sp.boxed HS.out hgb_ hcb_ hbb_); clear hgb_ hcb_ hbb_; have ha0 := (cl_ HS 0 0 rfl).trans rfl)
     | (go_at_call 63; (refine (HCD.out _ HS.out.below).mono ?_; rintro e wi_ ⟨rfl, hs_⟩; replace HS := A0_ (Sp.far HS.out hs_); clear hs_ ha0; have ha0 := (cl_ HS 0 0 rfl).trans rfl))
     | (go_at_call 64; (rw [HWS.out]; refine (spec_l01In.calls p 0 ((parts.length : Int) - 1) true _ HW1.out).mono ?_; rintro e ww_ ⟨rfl, hs_⟩; replace HS := A0_ (Sp.far HS.out hs_.below); clear hs_ HWS ha0; have ha0 := (cl_ HS 0 0 rfl).trans rfl))
     | (go_at_call 64; (refine (spec_l01In.calls d 0 5 false _ HW2.out).mono ?_; rintro e wv_ ⟨rfl, hs_⟩; replace HS := A0_ (Sp.far HS.out hs_.below); clear hs_ ha0; have ha0 := (cl_ HS 0 0 rfl).trans rfl)))
    go_ret2
    rw [HRE.out]
    exact ⟨rfl, HS.out.below⟩
 ·rw [if_neg c] at hre
  have HRE := A0_ hre
  have c0 : (cd == 0) = false := by rw [beq_eq_false_iff_ne]; exact c
  have c1 : (cd != 0) = true := by rw [bne_iff_ne]; exact c
  have c2 : (cd = 0) = False := eq_false c
  clear hC hcp hz hO hco hR hre c hcd
  go_enter Try.func29, Try.ntmps29
  go_wp2_with (first
   | ((with_reducible refine gate_dst (N := 4) rfl ?_); refine be_ (N := 4) (cs := #[.slice Ap parts.length cp]) (t := 26) ?_; intro ga hgb_ wb_ hcb_ hbb_; replace HS := A0_ (Sp.boxed HS.out hgb_ hcb_ hbb_); clear hgb_ hcb_ hbb_; have ha0 := (cl_ HS 0 0 rfl).trans rfl)
   | (go_at_call 63; (refine (HCD.out _ HS.out.below).mono ?_; rintro e wi_ ⟨rfl, hs_⟩; replace HS := A0_ (Sp.far HS.out hs_); clear hs_ ha0)))
  go_ret2
  rw [HRE.out]
  exact ⟨rfl, HS.out.below⟩
def DrOf (w0 : World) (e : Ending) (w' : World) : Prop := ∃ A c pp Ao co offs, e = .returned (.tuple #[.agg #[.slice A (pp : List (List Cb)).length c], .slice Ao (offs : List Cb).length co]) ∧ SzOk pp ∧ pp.length ≤ c ∧ offs.length ≤ co ∧ Sp w0 [asR A pp, offR Ao offs] w'
set_option maxHeartbeats 4000000 in
set_option maxRecDepth 100000 in
theorem drawFree_calls (Ac : Option Addr) (cc : Nat) (code : List Int) (w : World) (hok : CodeOk code) (hC : Kd.C (Kd.int .u8) w Ac code.length code) (hcc : code.length ≤ cc) :
  Calls Try.prog 25 #[.slice Ac code.length cc] w fun e w' => DrOf w e w' := by
 have hu32 := Try.underlying26
 have HS := A0_ (Sp.start w)
 have HOK := A0_ hok
 have HC := A0_ hC
 have HCC := A0_ hcc
 clear hok hC hcc
 go_enter Try.func25, Try.ntmps25
 go_wp2_with (first
  | (go_at_call 42; obtain ⟨gr, hg_⟩ : ∃ g_, g_ = (w).heap.size := ⟨_, rfl⟩; obtain ⟨wq, hw_⟩ : ∃ w_, w_ = (w).alloc (.cells #[.slice none 0 0] 26) := ⟨_, rfl⟩; (try rw [← hw_]); (try rw [← hg_]); have HS_ := A0_ (Sp.box HS.out #[.slice none 0 0] 26); rw [← hw_, ← hg_] at HS_; clear HS; have HS := HS_; clear HS_ hw_ hg_; refine (from_calls HOK.out (Kd.C_below HC.out HS.out.below) HCC.out).mono ?_; rintro e w2 ⟨g, p, s, rfl, hS_, hl_⟩; have HL := A0_ hl_; have HSR := A0_ hS_; clear hl_ hS_)
  | (go_at_call 62; refine (draw27Off_calls HOK.out HSR.out [] _ HL.out).mono ?_; rintro e w3 ⟨A, c, pp, Ao, co, offs, p2, s2, rfl, hS1, hz_, hc_, ho_, hs_⟩; have HZ := A0_ hz_; have HCP := A0_ hc_; have HCO := A0_ ho_; replace HS := A0_ (Sp.app HS.out hs_); clear hs_ hS1 hz_ hc_ ho_ HL)
  | ((with_reducible refine gate_store (t := 26) (p := 2) rfl ?_); refine store_event rfl rfl rfl (exec_store (v := .pointer (some ⟨gr, 0, none⟩)) (u := (.agg #[.slice A pp.length c])) rfl ?hp ?hx (Sp.blkStore HS.out (i := 3) rfl ((.agg #[.slice A pp.length c])) (#[.slice A pp.length c]) rfl rfl (by kernel_rfl) (by first | (simp; done) | (simp [Value.oneCell']; done) | (simp; exact ⟨rfl, rfl, rfl⟩)))) ?_; (case hp => first | rfl | (go_simp; done) | (go_simp; rfl)); (case hx => first | rfl | (go_simp; done) | (go_simp; rfl)); intro ws_ hw_; have HS_ := A0_ (Sp.blkAll HS.out (i := 3) rfl (#[.slice A pp.length c]) rfl); rw [← hw_] at HS_; clear HS hw_; have HS := HS_; clear HS_))
 (try simp only [Exit.inBlock, Exit.then]); refine bodyPost_ret (results_ct rfl _ _ gr 26 #[.slice A pp.length c] (0, 0) _ rfl (Sp.blk HS.out (i := 3) rfl).1 Try.underlying26 rfl (by kernel_rfl)) rfl ?_
 exact ⟨A, c, pp, Ao, co, offs, rfl, HZ.out, HCP.out, HCO.out, Sp.out (Sp.out HS.out 3) 0⟩
def DrLv (w0 : World) (e : Ending) (w' : World) : Prop := ∃ A c pp Ao co offs p d, e = .returned (.tuple #[.agg #[.slice A (pp : List (List Cb)).length c], .slice Ao (offs : List Cb).length co, .int .i64 p, .int .i64 d]) ∧ SzOk pp ∧ pp.length ≤ c ∧ offs.length ≤ co ∧ Sp w0 [asR A pp, offR Ao offs] w'
def dlvF.T3 : Bool × List (List Nat × List Nat) := (true, [([], []), ([], []), ([], []), ([2], [2]), ([], []), ([4, 3], [4]), ([5], [5]), ([3, 6], [3, 6]), ([], []), ([8, 5], [8]), ([], []), ([10, 9], [10]), ([11], [11]), ([9, 12], [9, 12]), ([0, 11, 0], [0]), ([1, 14, 0, 1, 14], [1]), ([7, 15, 0, 1, 2, 3, 4, 5, 6, 7, 14, 15], [7]), ([13, 16, 0, 1, 2, 3, 4, 5, 6, 7, 8, 9, 10, 11, 12, 13, 14, 15, 16], [13])])
def dlvF.B3 : List Nat := [0, 0, 0, 4, 0, 28, 60, 124, 0, 316, 0, 1852, 3900, 7996, 3901, 20287, 53247, 131071]
theorem dlvF.tab3 : rtab .any (opsOf Try.f28 3) = dlvF.T3 := by kernel_rfl
theorem dlvF.bits3 : waitsOk dlvF.T3.2 dlvF.B3 = true := by kernel_rfl
set_option maxHeartbeats 4000000 in
set_option maxRecDepth 100000 in
theorem drawLeave_calls (Ac : Option Addr) (cc : Nat) (code : List Int) (w : World) (hok : CodeOk code) (hC : Kd.C (Kd.int .u8) w Ac code.length code) (hcc : code.length ≤ cc) :
  Calls Try.prog 28 #[.slice Ac code.length cc] w fun e w' => DrLv w e w' := by
 have hu32 := Try.underlying26
 have HS := A0_ (Sp.start w)
 have HOK := A0_ hok
 have HC := A0_ hC
 have HCC := A0_ hcc
 clear hok hC hcc
 go_enter Try.func28, Try.ntmps28
 go_upto_region 3 with (first
  | (go_at_call 42; obtain ⟨gr, hg_⟩ : ∃ g_, g_ = (w).heap.size := ⟨_, rfl⟩; obtain ⟨wq, hw_⟩ : ∃ w_, w_ = (w).alloc (.cells #[.slice none 0 0] 26) := ⟨_, rfl⟩; (try rw [← hw_]); (try rw [← hg_]); have HS_ := A0_ (Sp.box HS.out #[.slice none 0 0] 26); rw [← hw_, ← hg_] at HS_; clear HS; have HS := HS_; clear HS_ hw_ hg_; refine (from_calls HOK.out (Kd.C_below HC.out HS.out.below) HCC.out).mono ?_; rintro e w2 ⟨g, p, s, rfl, hS_, hl_⟩; have H0 := HS; clear HS; have HS := A0_ hl_; have HSR := A0_ hS_; clear hl_ hS_)
  | (go_at_call 62; refine (draw27Off_calls HOK.out HSR.out [] _ HS.out).mono ?_; rintro e w3 ⟨A, c, pp, Ao, co, offs, p2, s2, rfl, hS1, hz_, hc_, ho_, hs_⟩; clear HSR; have HSR := A0_ hS1; have HZ := A0_ hz_; have HCP := A0_ hc_; have HCO := A0_ ho_; replace HS := A0_ (hs_); clear hs_ hS1 hz_ hc_ ho_)
  | ((with_reducible refine gate_dst (N := 7) rfl ?_); refine be_ (N := 7) (cs := #[.slice none 0 0]) (t := 26) ?_; intro gb hgb_ wb_ hcb_ hbb_; replace HS := A0_ (Sp.boxed HS.out hgb_ hcb_ hbb_); clear hgb_ hcb_ hbb_)
  | ((with_reducible refine gate_store (t := 26) (p := 7) rfl ?_); refine store_event rfl rfl rfl (exec_store (v := .pointer (some ⟨gb, 0, none⟩)) (u := (.agg #[.slice A pp.length c])) rfl ?hp ?hx (Sp.blkStore HS.out (i := 0) rfl ((.agg #[.slice A pp.length c])) (#[.slice A pp.length c]) rfl rfl (by kernel_rfl) (by first | (simp; done) | (simp [Value.oneCell']; done) | (simp; exact ⟨rfl, rfl, rfl⟩)))) ?_; (case hp => first | rfl | (go_simp; done) | (go_simp; rfl)); (case hx => first | rfl | (go_simp; done) | (go_simp; rfl)); intro ws_ hw_; have HS_ := A0_ (Sp.blkAll HS.out (i := 0) rfl (#[.slice A pp.length c]) rfl); rw [← hw_] at HS_; clear HS hw_; have HS := HS_; clear HS_; obtain ⟨w4_, hw4_⟩ : ∃ x, x = ws_ := ⟨_, rfl⟩; subst hw4_))
 have HS_ : Aside0 (Sp wq ([Res.blk gb #[.slice A pp.length c] 26, srcR wq g code p2 s2, asR A pp, offR Ao offs] ++ ([] : List Res)) _) := HS; clear HS; have HS := HS_; clear HS_
 go_wp2
 replace HS := A0_ (Sp.drew HS.out)
 refine start_ (n := 18) (S := fun w' => w'.cell? ⟨gb, 0, none⟩ = some (.slice A pp.length c)) (ds := []) #[false, false, false, false, false, false, false, false, false, false, false, false, false, false, false, false, false, false] (by kernel_rfl) rfl rfl ((cl_ HS 0 0 rfl).trans rfl) (fun hHeld => ?_)
 refine with_tabW dlvF.tab3 dlvF.bits3 (fun HT_ HW_ => ?_)
 generalize w4_.drew = wD3_ at HS hHeld ⊢
 refine tk_ 0 (some 16) ?_
 refine on_ 1 (some 17) ?_
 refine on_ 2 (some 18) ?_
 refine on_ 4 (some 20) ?_
 refine on_ 8 (some 24) ?_
 refine on_ 10 (some 26) ?_
 refine o1_ 3 (some 19) (fun K hK => ?_)
 refine gs_ Try.func57 #[.pointer (some ⟨g, 0, none⟩), .int .i64 5] ?_
 refine (next_at HOK.out HSR.out 5 (i := 1) rfl _ HS.out).mono ?_
 rintro e wA11 ⟨r1, pA11, sA11, rfl, hr_, hS1, hs_⟩
 refine ⟨_, rfl, ?_⟩
 clear HSR
 have HSR := A0_ hS1
 replace HS := A0_ (hs_)
 clear hs_ hS1 hr_
 refine hK.out _ _ ((cl_ HS 0 0 rfl).trans rfl) (fun hHeld => ?_)
 clear hK K
 refine nm_ (some 19) ?_
 refine o1_ 5 (some 21) (fun K hK => ?_)
 refine gs_ Try.func57 #[.pointer (some ⟨g, 0, none⟩), .int .i64 20] ?_
 refine (next_at HOK.out HSR.out 20 (i := 1) rfl _ HS.out).mono ?_
 rintro e wA12 ⟨r2, pA12, sA12, rfl, hr_, hS1, hs_⟩
 refine ⟨_, rfl, ?_⟩
 clear HSR
 have HSR := A0_ hS1
 replace HS := A0_ (hs_)
 clear hs_ hS1 hr_
 refine hK.out _ _ ((cl_ HS 0 0 rfl).trans rfl) (fun hHeld => ?_)
 clear hK K
 refine nm_ (some 21) ?_
 refine on_ 6 (some 22) ?_
 refine on_ 7 (some 23) ?_
 refine o1_ 9 (some 25) (fun K hK => ?_)
 refine gs_ Try.func57 #[.pointer (some ⟨g, 0, none⟩), .int .i64 7] ?_
 refine (next_at HOK.out HSR.out 7 (i := 1) rfl _ HS.out).mono ?_
 rintro e wA13 ⟨r3, pA13, sA13, rfl, hr_, hS1, hs_⟩
 refine ⟨_, rfl, ?_⟩
 clear HSR
 have HSR := A0_ hS1
 replace HS := A0_ (hs_)
 clear hs_ hS1 hr_
 refine hK.out _ _ ((cl_ HS 0 0 rfl).trans rfl) (fun hHeld => ?_)
 clear hK K
 refine nm_ (some 25) ?_
 refine o1_ 11 (some 27) (fun K hK => ?_)
 refine gs_ Try.func57 #[.pointer (some ⟨g, 0, none⟩), .int .i64 20] ?_
 refine (next_at HOK.out HSR.out 20 (i := 1) rfl _ HS.out).mono ?_
 rintro e wA14 ⟨r4, pA14, sA14, rfl, hr_, hS1, hs_⟩
 refine ⟨_, rfl, ?_⟩
 clear HSR
 have HSR := A0_ hS1
 replace HS := A0_ (hs_)
 clear hs_ hS1 hr_
 refine hK.out _ _ ((cl_ HS 0 0 rfl).trans rfl) (fun hHeld => ?_)
 clear hK K
 refine nm_ (some 27) ?_
 refine on_ 12 (some 28) ?_
 refine on_ 13 (some 29) ?_
 refine o1_ 14 none (fun K hK => ?_)
 replace HS := A0_ (Sp.app H0.out HS.out)
 refine skip_ (w1 := wA14.setCells gr 0 (#[.slice A pp.length c] : Array Value).toList) (by rfl) rfl (exec_store (v := .pointer (some ⟨gr, 0, none⟩)) (u := (.agg #[.slice A pp.length c])) rfl (by first | rfl | (go_simp; done) | (go_simp; rfl)) (by first | rfl | (go_simp; done) | (go_simp; rfl)) (Sp.blkStore HS.out (i := 4) rfl ((.agg #[.slice A pp.length c])) (#[.slice A pp.length c]) rfl rfl (by kernel_rfl) (by first | (simp; done) | (simp [Value.oneCell']; done) | (simp; exact ⟨rfl, rfl, rfl⟩)))) ?_
 obtain ⟨wS15, hw_⟩ : ∃ w_, w_ = wA14.setCells gr 0 (#[.slice A pp.length c] : Array Value).toList := ⟨_, rfl⟩
 rw [← hw_]
 have HS_ := A0_ (Sp.blkAll HS.out (i := 4) rfl (#[.slice A pp.length c]) rfl)
 rw [← hw_] at HS_
 clear HS
 have HS := HS_
 clear HS_ hw_
 refine hK.out _ _ ((cl_ HS 0 0 rfl).trans rfl) (fun hHeld => ?_)
 clear hK K
 refine on_ 15 (some 3) ?_
 refine on_ 16 (some 4) ?_
 refine on_ 17 (some 5) ?_
 refine dn_ ?_
 try go_wp2
 (try simp only [Exit.inBlock, Exit.then]); refine bodyPost_ret (results_list (rs := [.cell 2 26, .tmp 3, .tmp 4, .tmp 5]) rfl (by simp) (.cell gr 26 #[.slice A pp.length c] (0, 0) _ rfl (Sp.blk HS.out (i := 4) rfl).1 Try.underlying26 rfl (by kernel_rfl) (.tmp (.tmp (.tmp .nil))))) rfl ?_
 replace HS := A0_ (Sp.arr (pre := [Res.blk gb #[.slice A pp.length c] 26, srcR wq g code pA14 sA14, asR A pp, offR Ao offs, Res.blk gr #[.slice A pp.length c] 26]) (pre' := [asR A pp, offR Ao offs, Res.blk gb #[.slice A pp.length c] 26, srcR wq g code pA14 sA14, Res.blk gr #[.slice A pp.length c] 26]) (rest := ([] : List Res)) [2, 3, 0, 1, 4] HS.out rfl rfl)
 exact ⟨A, c, pp, Ao, co, offs, _, _, rfl, HZ.out, HCP.out, HCO.out, Sp.out (Sp.out (Sp.out HS.out 2) 2) 2⟩
section
attribute [local go_sem] max2_int min2_int max_two min_two max_three min_three max_four min_four
def laws_likeInts.l0 : Nat → List Int → List Int → Int → Option (Bool)
  | 0, _, _, _ => none
  | k + 1, x0, x1, x5 => if x5 < (x0.length : Int) then (if 0 ≤ x5 then (if x5 < (x1.length : Int) then (if (rd x0 x5) = (rd x1 x5) then (laws_likeInts.l0 k x0 x1 (wrap64 (x5 + 1))) else (some false)) else (none)) else (none)) else (some true)
def laws_likeInts.f (k : Nat) (l0 : List Int) (l1 : List Int) : Option (Bool) := if (l0.length : Int) = (l1.length : Int) then (laws_likeInts.l0 k l0 l1 0) else (some false)
set_option maxHeartbeats 8000000 in
set_option maxRecDepth 100000 in
theorem laws_likeInts.calls (k : Nat) (A0 : Option Addr) (c0 : Nat) (l0 : List Int) (A1 : Option Addr) (c1 : Nat) (l1 : List Int) (r : Bool) (w : World) (hr0 : Kd.C (Kd.int .i64) w A0 l0.length l0) (hc0 : l0.length ≤ c0) (hr1 : Kd.C (Kd.int .i64) w A1 l1.length l1) (hc1 : l1.length ≤ c1) (h : laws_likeInts.f k l0 l1 = some r) :
    Calls Try.prog 13 #[.slice A0 l0.length c0, .slice A1 l1.length c1] w fun e w' => e = .returned (.bool r) ∧ Drawn0 w w' := by
 (have HR0 := A0_ hr0); (have HC0 := A0_ hc0); clear hr0 hc0; (have HR1 := A0_ hr1); (have HC1 := A0_ hc1); clear hr1 hc1; (have H : (if (l0.length : Int) = (l1.length : Int) then (laws_likeInts.l0 k l0 l1 0) else (some false)) = some r := h); clear h; (by_cases c3 : (l0.length : Int) = (l1.length : Int))
 ·(rw [if_pos c3] at H); (have c3b0 : ((l0.length : Int) == (l1.length : Int)) = true := beq_iff_eq.mpr c3); (have c3b1 : ((l0.length : Int) != (l1.length : Int)) = false := bne_eq_false_iff_eq.mpr c3); (have c3b2 : (l0.length == l1.length) = true := by first | simpa using c3 | (simp at c3 ⊢; omega)); clear c3; (have H' := A0_ H); clear H; (go_enter Try.func13, Try.ntmps13); go_wp2; (repeat (go_quiet (fail); try go_wp2))
  go_loopg [5] k (fun kq v5 w' => ∃ (x5_1 : Int), v5 = .int .i64 x5_1 ∧ Aside0 (laws_likeInts.l0 kq l0 l1 x5_1 = some r) ∧ Aside0 (kq ≤ k) ∧ Drawn0 w w')
  case atStart => exact ⟨(0), (by first | rfl | (simp; done) | (simp [*]; done)), H', ⟨Nat.le_refl _⟩, by repeat (first | exact Drawn0.refl _ | apply Drawn0.step)⟩
  case round =>
   clear H'; (try clear c1); (try clear p2); (try clear c3); (try clear c3b0); (try clear c3b1); (try clear c3b2); (obtain ⟨x5_1, rfl, HA, HK1, ⟨m1, rfl⟩⟩ := hrel)
   cases gk with
   | zero => exact absurd HA.out (by simp [laws_likeInts.l0])
   | succ k1 =>
    (have H := HA.out); clear HA; (simp only [laws_likeInts.l0] at H); (by_cases c4 : x5_1 < (l0.length : Int))
    ·(rw [if_pos c4] at H); (have c4b0 : decide (x5_1 < (l0.length : Int)) = true := decide_eq_true c4); clear c4; (by_cases c5 : 0 ≤ x5_1)
     ·(rw [if_pos c5] at H); (have c5b0 : decide (0 ≤ x5_1) = true := decide_eq_true c5); clear c5; (by_cases c6 : x5_1 < (l1.length : Int))
      ·(rw [if_pos c6] at H); (have c6b0 : decide (x5_1 < (l1.length : Int)) = true := decide_eq_true c6); clear c6; (by_cases c7 : (rd l0 x5_1) = (rd l1 x5_1))
       ·(rw [if_pos c7] at H); (have c7b0 : ((rd l0 x5_1) == (rd l1 x5_1)) = true := beq_iff_eq.mpr c7); (have c7b1 : ((rd l0 x5_1) != (rd l1 x5_1)) = false := bne_eq_false_iff_eq.mpr c7); clear c7; (have H' := A0_ H); clear H; (have p521 : 0 ≤ (x5_1 : Int) := of_decide_eq_true as_); (have q521 : x5_1 < (l0.length : Int) := of_decide_eq_true as_); (obtain ⟨ad521, e521, hx521_0⟩ := Kd.at_int HR0.out x5_1 p521 q521); (cases e521); (replace p521 := eq_true p521); (replace q521 := eq_true q521); (have p522 : 0 ≤ (x5_1 : Int) := of_decide_eq_true as_); (have q522 : x5_1 < (l1.length : Int) := of_decide_eq_true as_); (obtain ⟨ad522, e522, hx522_0⟩ := Kd.at_int HR1.out x5_1 p522 q522); (cases e522); (replace p522 := eq_true p522); (replace q522 := eq_true q522); go_wp2; (repeat (go_quiet (fail); try go_wp2)); (go_roundg k1)
        case measure => have := HK1.out; omega
        case rel => exact ⟨(wrap64 (x5_1 + 1)), (by first | rfl | (simp; done) | (simp [*]; done)), H', ⟨by have := HK1.out; omega⟩, by repeat (first | exact Drawn0.refl _ | apply Drawn0.step)⟩
       ·(rw [if_neg c7] at H); (have c7b0 : ((rd l0 x5_1) == (rd l1 x5_1)) = false := beq_eq_false_iff_ne.mpr c7); (have c7b1 : ((rd l0 x5_1) != (rd l1 x5_1)) = true := bne_iff_ne.mpr c7); (obtain rfl := Option.some.inj H); (have p521 : 0 ≤ (x5_1 : Int) := of_decide_eq_true as_); (have q521 : x5_1 < (l0.length : Int) := of_decide_eq_true as_); (obtain ⟨ad521, e521, hx521_0⟩ := Kd.at_int HR0.out x5_1 p521 q521); (cases e521); (replace p521 := eq_true p521); (replace q521 := eq_true q521); (have p522 : 0 ≤ (x5_1 : Int) := of_decide_eq_true as_); (have q522 : x5_1 < (l1.length : Int) := of_decide_eq_true as_); (obtain ⟨ad522, e522, hx522_0⟩ := Kd.at_int HR1.out x5_1 p522 q522); (cases e522); (replace p522 := eq_true p522); (replace q522 := eq_true q522); go_wp2; (repeat (go_quiet (fail); try go_wp2)); go_ret; (exact ⟨by first | rfl | (simp; done) | (simp [*]; done), by repeat (first | exact Drawn0.refl _ | apply Drawn0.step)⟩)
      ·(rw [if_neg c6] at H); (exact absurd H (by simp))
     ·(rw [if_neg c5] at H); (exact absurd H (by simp))
    ·(rw [if_neg c4] at H); (have c4b0 : decide (x5_1 < (l0.length : Int)) = false := decide_eq_false c4); clear c4; (obtain rfl := Option.some.inj H); go_wp2; (repeat (go_quiet (fail); try go_wp2)); go_ret; (exact ⟨by first | rfl | (simp; done) | (simp [*]; done), by repeat (first | exact Drawn0.refl _ | apply Drawn0.step)⟩)
 ·(rw [if_neg c3] at H); (have c3b0 : ((l0.length : Int) == (l1.length : Int)) = false := beq_eq_false_iff_ne.mpr c3); (have c3b1 : ((l0.length : Int) != (l1.length : Int)) = true := bne_iff_ne.mpr c3); (have c3b2 : (l0.length == l1.length) = false := by first | simpa using c3 | (simp at c3 ⊢; omega)); (obtain rfl := Option.some.inj H); (go_enter Try.func13, Try.ntmps13); go_wp2; (repeat (go_quiet (fail); try go_wp2)); go_ret; (exact ⟨by first | rfl | (simp; done) | (simp [*]; done), by repeat (first | exact Drawn0.refl _ | apply Drawn0.step)⟩)
end
end Go.Proofs.Ytcobnlilmihjfaa.A

namespace Go.Proofs.Ytcobnlilmihjfaa.A
open Go.RowKit Go.Proofs.YtcobnlilmihjfaaW.PrintWords Go.Proofs.YtcobnlilmihjfaaW.PrintLast Go.Proofs.YtcobnlilmihjfaaW.PrintMore
set_option linter.unusedVariables false
set_option linter.unusedSimpArgs false
section
attribute [local go_sem] max2_int min2_int max_two min_two max_three min_three max_four min_four
def laws_big.f (l0 : List Int) : Option (Bool) := some (decide ((l0.length : Int) > 4096))
set_option maxHeartbeats 8000000 in
set_option maxRecDepth 100000 in
theorem laws_big.calls (A0 : Option Addr) (c0 : Nat) (l0 : List Int) (r : Bool) (w : World) (hr0 : Kd.C (Kd.int .u8) w A0 l0.length l0) (hc0 : l0.length ≤ c0) (h : laws_big.f l0 = some r) :
    Calls Try.prog 7 #[.slice A0 l0.length c0] w fun e w' => e = .returned (.bool r) ∧ Drawn0 w w' := by
 (have HR0 := A0_ hr0); (have HC0 := A0_ hc0); clear hr0 hc0; (have H : (some (decide ((l0.length : Int) > 4096))) = some r := h); clear h; (obtain rfl := Option.some.inj H); (go_enter Try.func7, Try.ntmps7); go_wp2; go_ret; (exact ⟨by first | rfl | (simp; done) | (simp [*]; done), by repeat (first | exact Drawn0.refl _ | apply Drawn0.step)⟩)
end
theorem likeInts_ev (l : List Int) (h : l.length ≤ 10000000) : Ev (fun k => laws_likeInts.f k l l) true := by
 unfold laws_likeInts.f
 simp only [if_true]
 refine ev_at l.length (fun (_ : Unit) _ => True) true (fun _ i k => laws_likeInts.l0 k l l i) (fun s hi => ?_) (fun s j hj hi => ?_) () trivial
 ·exact Ev.step (f := fun _ => some true) (fun k => by simp only [laws_likeInts.l0]; rw [if_neg (by omega)]) (Ev.now _)
 ·refine ⟨(), trivial, fun h2 => Ev.step (fun k => ?_) h2⟩
  simp only [laws_likeInts.l0, if_true]
  rw [if_pos (by omega), if_pos (by omega), wrap_succ j (by omega)]
  first | done | rw [if_pos (by omega)]
theorem big_eq (l : List Int) : laws_big.f l = some (decide ((l.length : Int) > 4096)) := rfl
end Go.Proofs.Ytcobnlilmihjfaa.A
