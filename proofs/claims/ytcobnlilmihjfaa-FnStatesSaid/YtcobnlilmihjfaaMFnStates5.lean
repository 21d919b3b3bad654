/- What the row of the law FnStates stands on, part 5. -/
import Derived.Test.YtcobnlilmihjfaaMFnStates4
namespace Go.Proofs.Ytcobnlilmihjfaa.A
open Go.RowKit Go.Proofs.YtcobnlilmihjfaaW.PrintWords Go.Proofs.YtcobnlilmihjfaaW.PrintLast Go.Proofs.YtcobnlilmihjfaaW.PrintMore
set_option linter.unusedVariables false
set_option linter.unusedSimpArgs false
structure DrOk (PS : List (Sl × List Cb)) : Prop where
 len : PS.length ≤ 8
 each : ∀ p ∈ PS, p.2.length ≤ 64
def drR (base : Nat) (A : Option Addr) (PS : List (Sl × List Cb)) : Res := Res.ex (fun x : Nat × Nat × List Sl × List (Sl × List Cb) => Res.star (Res.pure (PS.map Prod.fst = x.2.2.1.take PS.length ∧ PS.length ≤ x.2.2.1.length ∧ ∀ p ∈ PS, p ∈ x.2.2.2)) (Res.star (Res.row kSl 35 base (.slice A x.1 x.2.1) x.2.2.1) (Res.poolG kC 94 base x.2.2.2)))
theorem drR_reads {w0 : World} {base : Nat} {A : Option Addr} {PS : List (Sl × List Cb)} : RdsP w0 (drR base A PS) A (PS.map Prod.snd) := by
 intro fp w hb hP
 obtain ⟨⟨n, c, hs, L⟩, f1, f2, hp, ⟨f3, f4, h1, h2, _⟩, _⟩ := hP
 obtain ⟨e1, e2, e3⟩ := hp
 replace e2 : PS.length ≤ hs.length := e2
 replace e1 : PS.map Prod.fst = hs.take PS.length := e1
 have hr := Kd.R_reads' h1
 have ht := Kd.C_take hr.2.2 e2
 rw [List.length_map]
 have e4 : (hs.take PS.length).length = PS.length := by rw [List.length_take]; omega
 have hc : kSl.C w A PS.length (PS.map Prod.fst) := by rw [e1]; rw [e4] at ht; exact ht
 exact kP_of hc (fun p hp => by have := Kd.R_reads' (h2 p (e3 p hp)); exact ⟨this.1, this.2.1, this.2.2⟩)
theorem Sp.drClose {w0 w : World} {rs : List Res} {A : Option Addr} {n c : Nat} {hs : List Sl} {L : List (Sl × List Cb)} {PS : List (Sl × List Cb)} (h : Sp w0 (Res.row kSl 35 w0.heap.size (.slice A n c) hs :: Res.poolG kC 94 w0.heap.size L :: rs) w) (h1 : PS.map Prod.fst = hs.take PS.length) (h2 : PS.length ≤ hs.length) (h3 : ∀ p ∈ PS, p ∈ L) : Sp w0 (drR w0.heap.size A PS :: rs) w := by
 have a := Sp.star_close h
 have b := Sp.star_close (Sp.pureIn a (show PS.map Prod.fst = hs.take PS.length ∧ PS.length ≤ hs.length ∧ ∀ p ∈ PS, p ∈ L from ⟨h1, h2, h3⟩))
 exact Sp.ex_close (R := fun x : Nat × Nat × List Sl × List (Sl × List Cb) => Res.star (Res.pure (PS.map Prod.fst = x.2.2.1.take PS.length ∧ PS.length ≤ x.2.2.1.length ∧ ∀ p ∈ PS, p ∈ x.2.2.2)) (Res.star (Res.row kSl 35 w0.heap.size (.slice A x.1 x.2.1) x.2.2.1) (Res.poolG kC 94 w0.heap.size x.2.2.2))) (n, c, hs, L) b (i := 0) rfl
theorem Sp.drEnd {w0 w : World} {rest : List Res} {gs : Nat} {code : List Int} {p s : Int} {r : Res} {A : Option Addr} {n c : Nat} {hs : List Sl} {L PS : List (Sl × List Cb)} (h : Sp w0 ([srcR w0 gs code p s, Res.row kSl 35 w0.heap.size (.slice A n c) hs, Res.poolG kC 94 w0.heap.size L, r] ++ rest) w) (h1 : PS.map Prod.fst = hs.take PS.length) (h2 : PS.length ≤ hs.length) (h3 : ∀ p ∈ PS, p ∈ L) : Sp w0 (srcR w0 gs code p s :: drR w0.heap.size A PS :: rest) w := by
 have h4 : Sp w0 ([Res.row kSl 35 w0.heap.size (.slice A n c) hs, Res.poolG kC 94 w0.heap.size L, srcR w0 gs code p s, r] ++ rest) w := Sp.arr (pre := [srcR w0 gs code p s, Res.row kSl 35 w0.heap.size (.slice A n c) hs, Res.poolG kC 94 w0.heap.size L, r]) (pre' := [Res.row kSl 35 w0.heap.size (.slice A n c) hs, Res.poolG kC 94 w0.heap.size L, srcR w0 gs code p s, r]) [1, 2, 0, 3] h rfl rfl
 exact Sp.out (Sp.swap (Sp.drClose h4 h1 h2 h3)) 2
theorem reps1C (w : World) (b : Nat) (ok : Nat → Prop) (x : Cb) : Kd.M kC w b ok x [.int .i64 x.f0, .int .i64 x.f1, .int .i64 x.f2] := k94_mkM _ _ _ x
theorem Sp.kPos {w0 w : World} {rs : List Res} {i j e e' base base' n c : Nat} {A : Option Addr} {PS : List (Sl × List Cb)} {L : List (Sl × List Cb)} (h : Sp w0 rs w) (hi : rs[i]? = some (Res.row kSl e base (.slice A n c) (PS.map Prod.fst))) (hj : rs[j]? = some (Res.poolG kC e' base' L)) (hL : ∀ p ∈ PS, p ∈ L) : kP.C w A PS.length (PS.map Prod.snd) := by
 have hr := (Sp.reads h hi).2.2
 rw [List.length_map] at hr
 exact kP_of hr (fun p hp => Sp.poolGC h hj (hL p hp))
theorem used_nil {k : Nat} {a b c : Int} {r : Bool} (h : spec_l27Used.f k [] a b c = some r) : r = false := by
 unfold spec_l27Used.f at h
 cases k with
 | zero => cases h
 | succ k => simp only [spec_l27Used.l0, List.length_nil] at h; rw [if_neg (by decide)] at h; exact (Option.some.inj h).symm
theorem wrap_pred (n : Nat) (h : 0 < n) (h2 : n ≤ 1000) : wrap64 ((n : Int) - 1) = ((n - 1 : Nat) : Int) := by unfold wrap64; omega
theorem five (r : Int) : r = 0 ∨ r = 1 ∨ r = 2 ∨ r = 3 ∨ ((r == 0) = false ∧ (r == 1) = false ∧ (r == 2) = false ∧ (r == 3) = false ∧ (r = 0) = False ∧ (r = 1) = False ∧ (r = 2) = False ∧ (r = 3) = False) := by
 by_cases a : r = 0
 ·exact .inl a
 ·by_cases b : r = 1
  ·exact .inr (.inl b)
  ·by_cases c : r = 2
   ·exact .inr (.inr (.inl c))
   ·by_cases d : r = 3
    ·exact .inr (.inr (.inr (.inl d)))
    ·exact .inr (.inr (.inr (.inr ⟨by rw [beq_eq_false_iff_ne]; exact a, by rw [beq_eq_false_iff_ne]; exact b, by rw [beq_eq_false_iff_ne]; exact c, by rw [beq_eq_false_iff_ne]; exact d, eq_false a, eq_false b, eq_false c, eq_false d⟩)))
theorem three (r : Int) : r = 0 ∨ r = 1 ∨ ((r == 0) = false ∧ (r == 1) = false ∧ (r = 0) = False ∧ (r = 1) = False) := by
 by_cases a : r = 0
 ·exact .inl a
 ·by_cases b : r = 1
  ·exact .inr (.inl b)
  ·exact .inr (.inr ⟨by rw [beq_eq_false_iff_ne]; exact a, by rw [beq_eq_false_iff_ne]; exact b, eq_false a, eq_false b⟩)
abbrev stepsL : List Cb := [(⟨0, 0, (-1)⟩ : Cb), (⟨0, (-1), 0⟩ : Cb), (⟨(-1), 0, 0⟩ : Cb), (⟨1, 0, 0⟩ : Cb), (⟨0, 1, 0⟩ : Cb), (⟨0, 0, 1⟩ : Cb)]
def drwF.T23 : Bool × List (List Nat × List Nat) := (true, [([], []), ([], []), ([0, 1], [0, 1]), ([2], [2]), ([], []), ([], []), ([], []), ([5, 6], [5, 6]), ([7], [7]), ([8], [8]), ([4, 9], [4, 9]), ([3, 10], [3, 10]), ([11], [11]), ([10], []), ([], []), ([14, 13], [14]), ([13, 15], [13, 15]), ([16], [16]), ([12, 17, 15], [12, 17]), ([], []), ([19, 18, 18, 0, 1, 2, 3, 4, 5, 6, 7, 8, 9, 10, 11, 12, 13, 14, 15, 16, 17, 18, 19], [18, 19])])
def drwF.B23 : List Nat := [0, 0, 3, 7, 0, 0, 0, 96, 224, 480, 1008, 2047, 4095, 2032, 0, 26608, 59376, 124912, 262143, 0, 1048575]
theorem drwF.tab23 : rtab .any (opsOf Try.f66 23) = drwF.T23 := by kernel_rfl
theorem drwF.bits23 : waitsOk drwF.T23.2 drwF.B23 = true := by kernel_rfl
def drwF.T25 : Bool × List (List Nat × List Nat) := (true, [([], []), ([], []), ([], []), ([], []), ([], []), ([3, 4], [3, 4]), ([5], [5]), ([2, 6], [2, 6]), ([], []), ([8], [8]), ([7, 9, 7], [7, 9]), ([10, 10], [10]), ([0, 1, 0, 1, 2, 3, 4, 5, 6, 7, 8, 9, 10, 11], [0, 1]), ([12, 11, 11, 0, 1, 2, 3, 4, 5, 6, 7, 8, 9, 10, 11], [11, 12])])
def drwF.B25 : List Nat := [0, 0, 0, 0, 0, 24, 56, 124, 0, 256, 1020, 2044, 4095, 8191]
theorem drwF.tab25 : rtab .any (opsOf Try.f66 25) = drwF.T25 := by kernel_rfl
theorem drwF.bits25 : waitsOk drwF.T25.2 drwF.B25 = true := by kernel_rfl
def drwF.T30 : Bool × List (List Nat × List Nat) := (true, [([], []), ([], []), ([1], [1]), ([2], [2]), ([], []), ([4], [4]), ([5], [5]), ([6], [6]), ([3, 7, 5], [3, 7]), ([0, 0, 1, 2, 3, 4, 5, 6, 7, 8], [0]), ([9, 8, 8, 0, 1, 2, 3, 4, 5, 6, 7, 8], [8, 9])])
def drwF.B30 : List Nat := [0, 0, 2, 6, 0, 16, 48, 112, 254, 511, 1023]
theorem drwF.tab30 : rtab .any (opsOf Try.f66 30) = drwF.T30 := by kernel_rfl
theorem drwF.bits30 : waitsOk drwF.T30.2 drwF.B30 = true := by kernel_rfl
set_option maxHeartbeats 16000000 in
set_option maxRecDepth 100000 in
theorem draw27_calls {w0 : World} {gs : Nat} {code : List Int} (hok : CodeOk code) {p s : Int} (hS : SrcOk code p s) (rest : List Res) (w : World) (hs : Sp w0 (srcR w0 gs code p s :: rest) w) :
  Calls Try.prog 66 #[.pointer (some ⟨gs, 0, none⟩)] w fun e w' => ∃ A c PS p' s', e = .returned (.agg #[.slice A PS.length c]) ∧ SrcOk code p' s' ∧ DrOk PS ∧ PS.length ≤ c ∧ Sp w0 (srcR w0 gs code p' s' :: drR w0.heap.size A PS :: rest) w' := by
 have hu69 := Try.underlying94
 have hu34 := Try.underlying35
 have hu32 := Try.underlying26
 have HS := A0_ hs
 have HOK := A0_ hok
 have HSR := A0_ hS
 clear hs hS hok
 go_enter Try.func66, Try.ntmps66
 go_wp2_with (first
  | (go_at_call 57; go_loud (obtain ⟨gr, hg_⟩ : ∃ g_, g_ = (w).heap.size := ⟨_, rfl⟩; obtain ⟨w1, hw_⟩ : ∃ w_, w_ = (w).alloc (.cells #[.slice none 0 0] 26) := ⟨_, rfl⟩; (try rw [← hw_]); (try rw [← hg_]); have HS_ := A0_ (Sp.box HS.out #[.slice none 0 0] 26); rw [← hw_, ← hg_] at HS_; clear HS; have HS := HS_; clear HS_ hw_ hg_; refine (next_calls HOK.out HSR.out 12 (Res.blk gr #[.slice none 0 0] 26 :: rest) _ (Sp.swap HS.out)).mono ?_; rintro e w2 ⟨r, p1, s1, rfl, hr_, hS1, hs_⟩; clear HSR; have HSR := A0_ hS1; have HR := A0_ hr_; replace HS := A0_ (hs_); clear hs_ hS1 hr_; rcases three r with h1_ | h1_ | ⟨z0, z1, z2, z3⟩; (subst h1_); (rotate_left; subst h1_); rotate_right))
  | (go_at_call 57; go_loud (refine (next_calls HOK.out HSR.out 3 (Res.row kSl 35 w0.heap.size (.slice Ah ([] : List Sl).length ch) ([] : List Sl) :: Res.blk gr #[.slice none 0 0] 26 :: rest) _ (Sp.swap HS.out)).mono ?_; rintro e w3 ⟨r2, p2, s2, rfl, hr_, hS1, hs_⟩; clear HSR; have HSR := A0_ hS1; replace HS := A0_ (hs_); obtain ⟨m, hm⟩ : ∃ m : Nat, r2 = (m : Int) := ⟨r2.toNat, by omega⟩; subst hm; have HM := A0_ (show m < 3 by omega); have hw2 : wrap64 (2 + (m : Int)) = ((m + 2 : Nat) : Int) := (by have := HM.out; unfold wrap64; omega); clear hs_ hS1 hr_))
  | ((with_reducible refine gate_dst (N := 47) rfl ?_); refine Kd.R_lit kC _ 94 ?hg (N := 47) ?hd (xs := ([⟨0, 0, 0⟩, ⟨1, 0, 0⟩, ⟨2, 0, 0⟩, ⟨0, 1, 0⟩, ⟨2, 1, 0⟩, ⟨2, 2, 0⟩] : List Cb)) (inner := [.int .i64 0, .int .i64 0, .int .i64 0, .int .i64 1, .int .i64 0, .int .i64 0, .int .i64 2, .int .i64 0, .int .i64 0, .int .i64 0, .int .i64 1, .int .i64 0, .int .i64 2, .int .i64 1, .int .i64 0, .int .i64 2, .int .i64 2, .int .i64 0]) (ok := fun _ => True) (okp := fun _ => True) ?hr ?hp (fun _ hk => hk) trivial (Below.refl _ _) (Nat.le_refl _) (by simp) ?_; (case hd => rfl); (case hg => rfl); (case hr => first | (go_simp; done) | (go_simp; rfl)); (case hp => exact (Reps.c3 (reps1C _ _ _ ⟨0, 0, 0⟩) (Reps.c3 (reps1C _ _ _ ⟨1, 0, 0⟩) (Reps.c3 (reps1C _ _ _ ⟨2, 0, 0⟩) (Reps.c3 (reps1C _ _ _ ⟨0, 1, 0⟩) (Reps.c3 (reps1C _ _ _ ⟨2, 1, 0⟩) (Reps.c3 (reps1C _ _ _ ⟨2, 2, 0⟩) (Reps.none _ _)))))))); intro vl_ wl_ ho_ hb_ hg_ hn_; clear hg_ hn_; replace HS := A0_ (Sp.made' HS.out hb_ ho_); clear ho_ hb_; obtain ⟨A1, c1, ev_⟩ := Sp.slice HS.out (i := 0) rfl; subst ev_)
  | ((with_reducible refine gate_dst (N := 51) rfl ?_); refine Kd.R_lit kC _ 94 ?hg (N := 51) ?hd (xs := ([⟨1, 1, 0⟩, ⟨1, 2, 0⟩, ⟨1, 3, 0⟩] : List Cb)) (inner := [.int .i64 1, .int .i64 1, .int .i64 0, .int .i64 1, .int .i64 2, .int .i64 0, .int .i64 1, .int .i64 3, .int .i64 0]) (ok := fun _ => True) (okp := fun _ => True) ?hr ?hp (fun _ hk => hk) trivial (Below.refl _ _) (Nat.le_refl _) (by simp) ?_; (case hd => rfl); (case hg => rfl); (case hr => first | (go_simp; done) | (go_simp; rfl)); (case hp => exact (Reps.c3 (reps1C _ _ _ ⟨1, 1, 0⟩) (Reps.c3 (reps1C _ _ _ ⟨1, 2, 0⟩) (Reps.c3 (reps1C _ _ _ ⟨1, 3, 0⟩) (Reps.none _ _))))); intro vl_ wl_ ho_ hb_ hg_ hn_; clear hg_ hn_; replace HS := A0_ (Sp.made' HS.out hb_ ho_); clear ho_ hb_; obtain ⟨A2, c2, ev_⟩ := Sp.slice HS.out (i := 0) rfl; subst ev_)
  | ((with_reducible refine gate_dst (N := 52) rfl ?_); refine Kd.R_lit kSl _ 35 ?hg (N := 52) ?hd (xs := ([(A1, 6, c1), (A2, 3, c2)] : List Sl)) (inner := [.slice A1 6 c1, .slice A2 3 c2]) (ok := fun _ => True) (okp := fun _ => True) ?hr ?hp (fun _ hk => hk) trivial (Below.refl _ _) (Nat.le_refl _) (by simp) ?_; (case hd => rfl); (case hg => rfl); (case hr => first | (go_simp; done) | (go_simp; rfl)); (case hp => exact (Reps.one rfl (Reps.one rfl (Reps.none _ _)))); intro vl_ wl_ ho_ hb_ hg_ hn_; clear hg_ hn_; replace HS := A0_ (Sp.made' HS.out hb_ ho_); clear ho_ hb_; obtain ⟨A3, c3, ev_⟩ := Sp.slice HS.out (i := 0) rfl; subst ev_)
  | ((with_reducible refine gate_store (t := 26) (p := 2) rfl ?_); refine store_event rfl rfl rfl (exec_store (v := .pointer (some ⟨gr, 0, none⟩)) (u := (.agg #[.slice A3 2 c3])) rfl ?hp ?hx (Sp.blkStore HS.out (i := 4) rfl ((.agg #[.slice A3 2 c3])) (#[.slice A3 2 c3]) rfl rfl (by kernel_rfl) (by first | (simp; done) | (simp [Value.oneCell']; done) | (simp; exact ⟨rfl, rfl, rfl⟩)))) ?_; (case hp => first | rfl | (go_simp; done) | (go_simp; rfl)); (case hx => first | rfl | (go_simp; done) | (go_simp; rfl)); intro ws_ hw_; have HS_ := A0_ (Sp.blkAll HS.out (i := 4) rfl (#[.slice A3 2 c3]) rfl); rw [← hw_] at HS_; clear HS hw_; have HS := HS_; clear HS_)
  | ((with_reducible refine gate_dst (N := 15) rfl ?_); refine Kd.R_lit kC _ 94 ?hg (N := 15) ?hd (xs := ([] : List Cb)) (inner := []) (ok := fun _ => True) (okp := fun _ => True) ?hr ?hp (fun _ hk => hk) trivial (Below.refl _ _) (Nat.le_refl _) (by simp) ?_; (case hd => rfl); (case hg => rfl); (case hr => first | (go_simp; done) | (go_simp; rfl)); (case hp => exact (Reps.none _ _)); intro vl_ wl_ ho_ hb_ hg_ hn_; clear hg_ hn_; replace HS := A0_ (Sp.made' HS.out hb_ ho_); clear ho_ hb_; obtain ⟨Ao, co, ev_⟩ := Sp.slice HS.out (i := 0) rfl; subst ev_)
  | ((with_reducible refine gate_dst (N := 54) rfl ?_); refine Kd.R_lit kSl _ 35 ?hg (N := 54) ?hd (xs := ([] : List Sl)) (inner := []) (ok := fun _ => True) (okp := fun _ => True) ?hr ?hp (fun _ hk => hk) trivial (Below.refl _ _) (Nat.le_refl _) (by simp) ?_; (case hd => rfl); (case hg => rfl); (case hr => first | (go_simp; done) | (go_simp; rfl)); (case hp => exact (Reps.none _ _)); intro vl_ wl_ ho_ hb_ hg_ hn_; clear hg_ hn_; replace HS := A0_ (Sp.made' HS.out hb_ ho_); clear ho_ hb_; obtain ⟨Ah, ch, ev_⟩ := Sp.slice HS.out (i := 0) rfl; subst ev_))
 ·go_loopg [3, 4] 10 (fun kq v3 v4 w' => ∃ (k : Nat) (l : List Cb) (Ao : Option Addr) (co : Nat), v4 = .int .i64 (k : Int) ∧ v3 = .slice Ao l.length co ∧ Aside0 (k ≤ 9 ∧ kq + k = 10 ∧ l.length ≤ k) ∧ Aside0 (Sp w0 ([Res.row kC 94 w0.heap.size (.slice Ao l.length co) l, srcR w0 gs code p1 s1, Res.blk gr #[.slice none 0 0] 26] ++ rest) w'))
  case atStart => exact ⟨0, [], Ao, co, rfl, rfl, ⟨by omega, by omega, by simp⟩, HS⟩
  case round =>
   clear HS
   obtain ⟨k, l, Ao, co, rfl, rfl, HX, HS⟩ := hrel
   obtain ⟨k1, rfl⟩ : ∃ k1, gk = k1 + 1 := ⟨gk - 1, by have := HX.out; omega⟩
   by_cases ck : k < 9
   ·have q0 : decide (k < 9) = true := decide_eq_true ck
    have q1 : ((k : Int) < 9) = True := eq_true (by omega)
    have q2 : (k < 9) = True := eq_true ck
    have HW := A0_ (wrap_succ k (by omega))
    have HCK := A0_ ck
    by_cases c4 : k = 4
    ·subst c4
     clear ck
     go_wp2
     go_roundg k1
     case measure => omega
     case rel => exact ⟨5, l, Ao, co, rfl, rfl, ⟨by omega, by have := HX.out; omega, by have := HX.out; omega⟩, HS⟩
    ·have z4 : ((k : Int) != 4) = true := by rw [bne_iff_ne]; omega
     have z5 : ((k : Int) == 4) = false := by rw [beq_eq_false_iff_ne]; omega
     have z6 : ((k : Int) = 4) = False := eq_false (by omega)
     have z7 : (k = 4) = False := eq_false c4
     clear ck c4
     go_wp2_with (first
      | ((with_reducible refine gate_dst (N := 30) rfl ?_); refine Kd.R_lit kC _ 94 ?hg (N := 30) ?hd (xs := ([(⟨(k : Int) % 3 + 1, wrap64 (wrap64 ((k : Int) / 3) + 1), 1⟩ : Cb)] : List Cb)) (inner := [.int .i64 ((k : Int) % 3 + 1), .int .i64 (wrap64 (wrap64 ((k : Int) / 3) + 1)), .int .i64 1]) (ok := fun _ => True) (okp := fun _ => True) ?hr ?hp (fun _ hk => hk) trivial (Below.refl _ _) (Nat.le_refl _) (by simp) ?_; (case hd => rfl); (case hg => rfl); (case hr => first | (go_simp; done) | (go_simp; rfl)); (case hp => exact (Reps.c3 (reps1C _ _ _ (⟨(k : Int) % 3 + 1, wrap64 (wrap64 ((k : Int) / 3) + 1), 1⟩ : Cb)) (Reps.none _ _))); intro vl_ wl_ ho_ hb_ hg_ hn_; clear hg_ hn_; replace HS := A0_ (Sp.made' HS.out hb_ ho_); clear ho_ hb_; obtain ⟨Al, cl, ev_⟩ := Sp.slice HS.out (i := 0) rfl; subst ev_)
      | ((with_reducible refine gate_builtin (b := .append) (xs := #[.tmp 22, .tmp 30]) rfl ?_); at_builtin; obtain ⟨fp_, ho_, hf_, hc_⟩ := Sp.row HS.out (i := 1) rfl; refine Kd.R_append_rows kC (w0 := w0) w0.heap.size rfl (.tmp 22) (.tmp 30) 35 94 ((.agg #[(.int .i64 0), (.int .i64 0), (.int .i64 0)])) 24 rfl Try.underlying35 info94 rfl (by decide) (by omega) (.slice Ao l.length co) (l) (([(⟨(k : Int) % 3 + 1, wrap64 (wrap64 ((k : Int) / 3) + 1), 1⟩ : Cb)] : List Cb)) _ _ _ _ (fun _ => False) rfl rfl ho_ ((Sp.reads HS.out (i := 0) rfl).2.2) (fun _ _ h => h) (fun _ h => h.elim) (fun _ h => Or.inr h) HS.out.below HS.out.below.size ?aL ?_; (case aL => (have := HX.out; simp only [List.length_cons, List.length_nil]; omega)); intro va_ wa_ ho hb hg hat; replace HS := A0_ (hc_ _ _ _ ho hg); clear ho hb hg hat hc_ hf_ ho_ fp_; obtain ⟨A2, c2, ev_⟩ := Sp.slice HS.out (i := 1) rfl; subst ev_))
     go_roundg k1
     case measure => omega
     case rel =>
      rw [HW.out]
      exact ⟨k + 1, _, A2, c2, rfl, by simp only [List.length_append, List.length_cons, List.length_nil], ⟨by have := HCK.out; omega, by have := HX.out; omega, by have := HX.out; rw [List.length_append]; simp only [List.length_cons, List.length_nil]; omega⟩, ⟨Sp.out HS.out 0⟩⟩
   ·have q0 : decide (k < 9) = false := decide_eq_false ck
    have q1 : ((k : Int) < 9) = False := eq_false (by omega)
    have q2 : (k < 9) = False := eq_false ck
    have HLL := A0_ (show l.length ≤ 9 by have := HX.out; omega)
    clear ck
    go_wp2_with (first
     | ((with_reducible refine gate_dst (N := 36) rfl ?_); refine Kd.R_lit kC _ 94 ?hg (N := 36) ?hd (xs := ([⟨2, 2, 0⟩, ⟨2, 2, 1⟩, ⟨2, 2, 2⟩] : List Cb)) (inner := [.int .i64 2, .int .i64 2, .int .i64 0, .int .i64 2, .int .i64 2, .int .i64 1, .int .i64 2, .int .i64 2, .int .i64 2]) (ok := fun _ => True) (okp := fun _ => True) ?hr ?hp (fun _ hk => hk) trivial (Below.refl _ _) (Nat.le_refl _) (by simp) ?_; (case hd => rfl); (case hg => rfl); (case hr => first | (go_simp; done) | (go_simp; rfl)); (case hp => exact (Reps.c3 (reps1C _ _ _ ⟨2, 2, 0⟩) (Reps.c3 (reps1C _ _ _ ⟨2, 2, 1⟩) (Reps.c3 (reps1C _ _ _ ⟨2, 2, 2⟩) (Reps.none _ _))))); intro vl_ wl_ ho_ hb_ hg_ hn_; clear hg_ hn_; replace HS := A0_ (Sp.made' HS.out hb_ ho_); clear ho_ hb_; obtain ⟨A2, c2, ev_⟩ := Sp.slice HS.out (i := 0) rfl; subst ev_)
     | ((with_reducible refine gate_dst (N := 37) rfl ?_); refine Kd.R_lit kSl _ 35 ?hg (N := 37) ?hd (xs := ([(Ao, l.length, co), (A2, 3, c2)] : List Sl)) (inner := [.slice Ao l.length co, .slice A2 3 c2]) (ok := fun _ => True) (okp := fun _ => True) ?hr ?hp (fun _ hk => hk) trivial (Below.refl _ _) (Nat.le_refl _) (by simp) ?_; (case hd => rfl); (case hg => rfl); (case hr => first | (go_simp; done) | (go_simp; rfl)); (case hp => exact (Reps.one rfl (Reps.one rfl (Reps.none _ _)))); intro vl_ wl_ ho_ hb_ hg_ hn_; clear hg_ hn_; replace HS := A0_ (Sp.made' HS.out hb_ ho_); clear ho_ hb_; obtain ⟨A3, c3, ev_⟩ := Sp.slice HS.out (i := 0) rfl; subst ev_)
     | ((with_reducible refine gate_store (t := 26) (p := 2) rfl ?_); refine store_event rfl rfl rfl (exec_store (v := .pointer (some ⟨gr, 0, none⟩)) (u := (.agg #[.slice A3 2 c3])) rfl ?hp ?hx (Sp.blkStore HS.out (i := 4) rfl ((.agg #[.slice A3 2 c3])) (#[.slice A3 2 c3]) rfl rfl (by kernel_rfl) (by first | (simp; done) | (simp [Value.oneCell']; done) | (simp; exact ⟨rfl, rfl, rfl⟩)))) ?_; (case hp => first | rfl | (go_simp; done) | (go_simp; rfl)); (case hx => first | rfl | (go_simp; done) | (go_simp; rfl)); intro ws_ hw_; have HS_ := A0_ (Sp.blkAll HS.out (i := 4) rfl (#[.slice A3 2 c3]) rfl); rw [← hw_] at HS_; clear HS hw_; have HS := HS_; clear HS_))
    (try simp only [Exit.inBlock, Exit.then]); refine bodyPost_ret (results_cell_row rfl _ _ gr 26 #[.slice A3 2 c3] (0, 0) _ rfl (Sp.blk HS.out (i := 4) rfl).1 Try.underlying26 rfl (by kernel_rfl)) rfl ?_
    have hc3 := (Sp.reads HS.out (i := 0) rfl).2.1
    have h0 : Sp w0 ([Res.poolG kC 94 w0.heap.size [], Res.row kSl 35 w0.heap.size (.slice A3 2 c3) ([(Ao, l.length, co), (A2, 3, c2)] : List Sl), Res.row kC 94 w0.heap.size (.slice A2 3 c2) ([⟨2, 2, 0⟩, ⟨2, 2, 1⟩, ⟨2, 2, 2⟩] : List Cb), Res.row kC 94 w0.heap.size (.slice Ao l.length co) l, srcR w0 gs code p1 s1, Res.blk gr #[.slice A3 2 c3] 26] ++ rest) _ := Sp.poolGNil kC 94 HS.out
    have h1 := Sp.poolGAdd (show Sp w0 (Res.row kC 94 w0.heap.size (.slice Ao l.length co) l :: Res.poolG kC 94 w0.heap.size [] :: ([Res.row kSl 35 w0.heap.size (.slice A3 2 c3) ([(Ao, l.length, co), (A2, 3, c2)] : List Sl), Res.row kC 94 w0.heap.size (.slice A2 3 c2) ([⟨2, 2, 0⟩, ⟨2, 2, 1⟩, ⟨2, 2, 2⟩] : List Cb), srcR w0 gs code p1 s1, Res.blk gr #[.slice A3 2 c3] 26] ++ rest)) _ from Sp.arr (pre' := [Res.row kC 94 w0.heap.size (.slice Ao l.length co) l, Res.poolG kC 94 w0.heap.size [], Res.row kSl 35 w0.heap.size (.slice A3 2 c3) ([(Ao, l.length, co), (A2, 3, c2)] : List Sl), Res.row kC 94 w0.heap.size (.slice A2 3 c2) ([⟨2, 2, 0⟩, ⟨2, 2, 1⟩, ⟨2, 2, 2⟩] : List Cb), srcR w0 gs code p1 s1, Res.blk gr #[.slice A3 2 c3] 26]) [3, 0, 1, 2, 4, 5] h0 rfl rfl)
    have h2 := Sp.poolGAdd (show Sp w0 (Res.row kC 94 w0.heap.size (.slice A2 3 c2) ([⟨2, 2, 0⟩, ⟨2, 2, 1⟩, ⟨2, 2, 2⟩] : List Cb) :: Res.poolG kC 94 w0.heap.size ([] ++ [((Ao, l.length, co), l)]) :: ([Res.row kSl 35 w0.heap.size (.slice A3 2 c3) ([(Ao, l.length, co), (A2, 3, c2)] : List Sl), srcR w0 gs code p1 s1, Res.blk gr #[.slice A3 2 c3] 26] ++ rest)) _ from Sp.arr (pre := [Res.poolG kC 94 w0.heap.size ([] ++ [((Ao, l.length, co), l)]), Res.row kSl 35 w0.heap.size (.slice A3 2 c3) ([(Ao, l.length, co), (A2, 3, c2)] : List Sl), Res.row kC 94 w0.heap.size (.slice A2 3 c2) ([⟨2, 2, 0⟩, ⟨2, 2, 1⟩, ⟨2, 2, 2⟩] : List Cb), srcR w0 gs code p1 s1, Res.blk gr #[.slice A3 2 c3] 26]) (pre' := [Res.row kC 94 w0.heap.size (.slice A2 3 c2) ([⟨2, 2, 0⟩, ⟨2, 2, 1⟩, ⟨2, 2, 2⟩] : List Cb), Res.poolG kC 94 w0.heap.size ([] ++ [((Ao, l.length, co), l)]), Res.row kSl 35 w0.heap.size (.slice A3 2 c3) ([(Ao, l.length, co), (A2, 3, c2)] : List Sl), srcR w0 gs code p1 s1, Res.blk gr #[.slice A3 2 c3] 26]) [2, 0, 1, 3, 4] h1 rfl rfl)
    have h3 : Sp w0 (Res.row kSl 35 w0.heap.size (.slice A3 2 c3) ([(Ao, l.length, co), (A2, 3, c2)] : List Sl) :: Res.poolG kC 94 w0.heap.size (([] ++ [((Ao, l.length, co), l)]) ++ [((A2, 3, c2), ([⟨2, 2, 0⟩, ⟨2, 2, 1⟩, ⟨2, 2, 2⟩] : List Cb))]) :: ([srcR w0 gs code p1 s1, Res.blk gr #[.slice A3 2 c3] 26] ++ rest)) _ := Sp.swap h2
    have h4 := Sp.drClose (PS := [((Ao, l.length, co), l), ((A2, 3, c2), ([⟨2, 2, 0⟩, ⟨2, 2, 1⟩, ⟨2, 2, 2⟩] : List Cb))]) h3 rfl (by simp) (fun q hq => hq)
    exact ⟨A3, c3, [((Ao, l.length, co), l), ((A2, 3, c2), ([⟨2, 2, 0⟩, ⟨2, 2, 1⟩, ⟨2, 2, 2⟩] : List Cb))], p1, s1, rfl, HSR.out, ⟨by simp, fun q hq => by
     rcases List.mem_cons.1 hq with rfl | hq
     ·have := HLL.out; show l.length ≤ 64; omega
     ·obtain rfl := List.mem_singleton.1 hq
      simp⟩, hc3, Sp.out (Sp.swap h4) 2⟩
 ·(try simp only [Exit.inBlock, Exit.then]); refine bodyPost_ret (results_cell_row rfl _ _ gr 26 #[.slice A3 2 c3] (0, 0) _ rfl (Sp.blk HS.out (i := 4) rfl).1 Try.underlying26 rfl (by kernel_rfl)) rfl ?_
  have hc3 := (Sp.reads HS.out (i := 0) rfl).2.1
  have h0 : Sp w0 ([Res.poolG kC 94 w0.heap.size [], Res.row kSl 35 w0.heap.size (.slice A3 2 c3) ([(A1, 6, c1), (A2, 3, c2)] : List Sl), Res.row kC 94 w0.heap.size (.slice A2 3 c2) ([⟨1, 1, 0⟩, ⟨1, 2, 0⟩, ⟨1, 3, 0⟩] : List Cb), Res.row kC 94 w0.heap.size (.slice A1 6 c1) ([⟨0, 0, 0⟩, ⟨1, 0, 0⟩, ⟨2, 0, 0⟩, ⟨0, 1, 0⟩, ⟨2, 1, 0⟩, ⟨2, 2, 0⟩] : List Cb), srcR w0 gs code p1 s1, Res.blk gr #[.slice A3 2 c3] 26] ++ rest) _ := Sp.poolGNil kC 94 HS.out
  have h1 := Sp.poolGAdd (show Sp w0 (Res.row kC 94 w0.heap.size (.slice A1 6 c1) ([⟨0, 0, 0⟩, ⟨1, 0, 0⟩, ⟨2, 0, 0⟩, ⟨0, 1, 0⟩, ⟨2, 1, 0⟩, ⟨2, 2, 0⟩] : List Cb) :: Res.poolG kC 94 w0.heap.size [] :: ([Res.row kSl 35 w0.heap.size (.slice A3 2 c3) ([(A1, 6, c1), (A2, 3, c2)] : List Sl), Res.row kC 94 w0.heap.size (.slice A2 3 c2) ([⟨1, 1, 0⟩, ⟨1, 2, 0⟩, ⟨1, 3, 0⟩] : List Cb), srcR w0 gs code p1 s1, Res.blk gr #[.slice A3 2 c3] 26] ++ rest)) _ from Sp.arr (pre' := [Res.row kC 94 w0.heap.size (.slice A1 6 c1) ([⟨0, 0, 0⟩, ⟨1, 0, 0⟩, ⟨2, 0, 0⟩, ⟨0, 1, 0⟩, ⟨2, 1, 0⟩, ⟨2, 2, 0⟩] : List Cb), Res.poolG kC 94 w0.heap.size [], Res.row kSl 35 w0.heap.size (.slice A3 2 c3) ([(A1, 6, c1), (A2, 3, c2)] : List Sl), Res.row kC 94 w0.heap.size (.slice A2 3 c2) ([⟨1, 1, 0⟩, ⟨1, 2, 0⟩, ⟨1, 3, 0⟩] : List Cb), srcR w0 gs code p1 s1, Res.blk gr #[.slice A3 2 c3] 26]) [3, 0, 1, 2, 4, 5] h0 rfl rfl)
  have h2 := Sp.poolGAdd (show Sp w0 (Res.row kC 94 w0.heap.size (.slice A2 3 c2) ([⟨1, 1, 0⟩, ⟨1, 2, 0⟩, ⟨1, 3, 0⟩] : List Cb) :: Res.poolG kC 94 w0.heap.size ([] ++ [((A1, 6, c1), ([⟨0, 0, 0⟩, ⟨1, 0, 0⟩, ⟨2, 0, 0⟩, ⟨0, 1, 0⟩, ⟨2, 1, 0⟩, ⟨2, 2, 0⟩] : List Cb))]) :: ([Res.row kSl 35 w0.heap.size (.slice A3 2 c3) ([(A1, 6, c1), (A2, 3, c2)] : List Sl), srcR w0 gs code p1 s1, Res.blk gr #[.slice A3 2 c3] 26] ++ rest)) _ from Sp.arr (pre := [Res.poolG kC 94 w0.heap.size ([] ++ [((A1, 6, c1), ([⟨0, 0, 0⟩, ⟨1, 0, 0⟩, ⟨2, 0, 0⟩, ⟨0, 1, 0⟩, ⟨2, 1, 0⟩, ⟨2, 2, 0⟩] : List Cb))]), Res.row kSl 35 w0.heap.size (.slice A3 2 c3) ([(A1, 6, c1), (A2, 3, c2)] : List Sl), Res.row kC 94 w0.heap.size (.slice A2 3 c2) ([⟨1, 1, 0⟩, ⟨1, 2, 0⟩, ⟨1, 3, 0⟩] : List Cb), srcR w0 gs code p1 s1, Res.blk gr #[.slice A3 2 c3] 26]) (pre' := [Res.row kC 94 w0.heap.size (.slice A2 3 c2) ([⟨1, 1, 0⟩, ⟨1, 2, 0⟩, ⟨1, 3, 0⟩] : List Cb), Res.poolG kC 94 w0.heap.size ([] ++ [((A1, 6, c1), ([⟨0, 0, 0⟩, ⟨1, 0, 0⟩, ⟨2, 0, 0⟩, ⟨0, 1, 0⟩, ⟨2, 1, 0⟩, ⟨2, 2, 0⟩] : List Cb))]), Res.row kSl 35 w0.heap.size (.slice A3 2 c3) ([(A1, 6, c1), (A2, 3, c2)] : List Sl), srcR w0 gs code p1 s1, Res.blk gr #[.slice A3 2 c3] 26]) [2, 0, 1, 3, 4] h1 rfl rfl)
  have h3 : Sp w0 (Res.row kSl 35 w0.heap.size (.slice A3 2 c3) ([(A1, 6, c1), (A2, 3, c2)] : List Sl) :: Res.poolG kC 94 w0.heap.size (([] ++ [((A1, 6, c1), ([⟨0, 0, 0⟩, ⟨1, 0, 0⟩, ⟨2, 0, 0⟩, ⟨0, 1, 0⟩, ⟨2, 1, 0⟩, ⟨2, 2, 0⟩] : List Cb))]) ++ [((A2, 3, c2), ([⟨1, 1, 0⟩, ⟨1, 2, 0⟩, ⟨1, 3, 0⟩] : List Cb))]) :: ([srcR w0 gs code p1 s1, Res.blk gr #[.slice A3 2 c3] 26] ++ rest)) _ := Sp.swap h2
  have h4 := Sp.drClose (PS := [((A1, 6, c1), ([⟨0, 0, 0⟩, ⟨1, 0, 0⟩, ⟨2, 0, 0⟩, ⟨0, 1, 0⟩, ⟨2, 1, 0⟩, ⟨2, 2, 0⟩] : List Cb)), ((A2, 3, c2), ([⟨1, 1, 0⟩, ⟨1, 2, 0⟩, ⟨1, 3, 0⟩] : List Cb))]) h3 rfl (by simp) (fun q hq => hq)
  exact ⟨A3, c3, [((A1, 6, c1), ([⟨0, 0, 0⟩, ⟨1, 0, 0⟩, ⟨2, 0, 0⟩, ⟨0, 1, 0⟩, ⟨2, 1, 0⟩, ⟨2, 2, 0⟩] : List Cb)), ((A2, 3, c2), ([⟨1, 1, 0⟩, ⟨1, 2, 0⟩, ⟨1, 3, 0⟩] : List Cb))], p1, s1, rfl, HSR.out, ⟨by simp, fun q hq => by
   rcases List.mem_cons.1 hq with rfl | hq
   ·simp
   ·obtain rfl := List.mem_singleton.1 hq
    simp⟩, hc3, Sp.out (Sp.swap h4) 2⟩
 ·clear z0 z1 z2 z3 HR
  have h0 : Sp w0 ([Res.poolG kC 94 w0.heap.size [], srcR w0 gs code p2 s2, Res.row kSl 35 w0.heap.size (.slice Ah ([] : List Sl).length ch) ([] : List Sl), Res.blk gr #[.slice none 0 0] 26] ++ rest) _ := Sp.poolGNil kC 94 HS.out
  have HS_ := A0_ (Sp.arr (pre' := [srcR w0 gs code p2 s2, Res.row kSl 35 w0.heap.size (.slice Ah ([] : List Sl).length ch) ([] : List Sl), Res.poolG kC 94 w0.heap.size [], Res.blk gr #[.slice none 0 0] 26]) [1, 2, 0, 3] h0 rfl rfl)
  clear HS h0
  have HS := HS_
  clear HS_
  go_loopg [5, 6] (m + 3) (fun kq v5 v6 w' => ∃ (n : Nat) (PS : List (Sl × List Cb)) (A : Option Addr) (c : Nat) (p s : Int), v6 = .int .i64 (n : Int) ∧ v5 = .slice A PS.length c ∧ Aside0 (kq = n + 1 ∧ PS.length + n ≤ 4 ∧ 1 ≤ PS.length + n ∧ (∀ q ∈ PS, q.2.length = 1) ∧ SrcOk code p s) ∧ Aside0 (Sp w0 ([srcR w0 gs code p s, Res.row kSl 35 w0.heap.size (.slice A PS.length c) (PS.map Prod.fst), Res.poolG kC 94 w0.heap.size PS, Res.blk gr #[.slice none 0 0] 26] ++ rest) w'))
  case atStart => exact ⟨m + 2, [], Ah, ch, p2, s2, by rw [hw2], rfl, ⟨by omega, by have := HM.out; simp only [List.length_nil]; omega, by omega, fun q hq => (by cases hq), HSR.out⟩, HS⟩
  case round =>
   clear HS HSR hw2
   obtain ⟨n, PS, A, c, p, s, rfl, rfl, HX, HS⟩ := hrel
   obtain ⟨k1, rfl⟩ : ∃ k1, gk = k1 + 1 := ⟨gk - 1, by have := HX.out.1; omega⟩
   have HSR := A0_ HX.out.2.2.2.2
   by_cases cn : 0 < n
   ·have q0 : decide (0 < n) = true := decide_eq_true cn
    have q1 : ((n : Int) > 0) = True := eq_true (by omega)
    have q2 : ((0 : Int) < (n : Int)) = True := eq_true (by omega)
    have q3 : (0 < n) = True := eq_true cn
    have HCN := A0_ cn
    have T1 := A0_ trivial
    have T2 := A0_ trivial
    have T3 := A0_ trivial
    clear cn
    go_wp2_with (first
     | (go_at_call 57; go_loud (have t_ := T1.out; refine (next_calls HOK.out HSR.out _ ([Res.row kSl 35 w0.heap.size (.slice A PS.length c) (PS.map Prod.fst), Res.poolG kC 94 w0.heap.size PS, Res.blk gr #[.slice none 0 0] 26] ++ rest) _ HS.out).mono ?_; rintro e w41 ⟨rx, px, sx, rfl, hr_, hS1, hs_⟩; clear HSR T1; have HSR := A0_ hS1; replace HS := A0_ (hs_); obtain ⟨x1, hx1⟩ : ∃ x_, wrap64 (1 + rx) = x_ := ⟨_, rfl⟩; clear hs_ hS1 hr_ t_))
     | (go_at_call 57; go_loud (have t_ := T2.out; refine (next_calls HOK.out HSR.out _ ([Res.row kSl 35 w0.heap.size (.slice A PS.length c) (PS.map Prod.fst), Res.poolG kC 94 w0.heap.size PS, Res.blk gr #[.slice none 0 0] 26] ++ rest) _ HS.out).mono ?_; rintro e w42 ⟨rx, px, sx, rfl, hr_, hS1, hs_⟩; clear HSR T2; have HSR := A0_ hS1; replace HS := A0_ (hs_); obtain ⟨x2, hx2⟩ : ∃ x_, wrap64 (1 + rx) = x_ := ⟨_, rfl⟩; clear hs_ hS1 hr_ t_))
     | (go_at_call 57; go_loud (have t_ := T3.out; refine (next_calls HOK.out HSR.out _ ([Res.row kSl 35 w0.heap.size (.slice A PS.length c) (PS.map Prod.fst), Res.poolG kC 94 w0.heap.size PS, Res.blk gr #[.slice none 0 0] 26] ++ rest) _ HS.out).mono ?_; rintro e w43 ⟨rx, px, sx, rfl, hr_, hS1, hs_⟩; clear HSR T3; have HSR := A0_ hS1; replace HS := A0_ (hs_); obtain ⟨x3, hx3⟩ : ∃ x_, wrap64 (1 + rx) = x_ := ⟨_, rfl⟩; clear hs_ hS1 hr_ t_))
     | (go_at_call 94; go_loud (obtain ⟨gc, hg_⟩ : ∃ g_, g_ = (w43).heap.size := ⟨_, rfl⟩; obtain ⟨wq, hw_⟩ : ∃ w_, w_ = (w43).alloc (.cells #[.int .i64 x1, .int .i64 x2, .int .i64 x3] 94) := ⟨_, rfl⟩; (try rw [← hw_]); (try rw [← hg_]); have HS_ := A0_ (Sp.box HS.out #[.int .i64 x1, .int .i64 x2, .int .i64 x3] 94); rw [← hw_, ← hg_] at HS_; clear HS; have HS := HS_; clear HS_ hw_ hg_; obtain ⟨b, hb_⟩ := used_ev (PS.map Prod.snd) (⟨x1, x2, x3⟩ : Cb) (by rw [List.length_map]; have := HX.out.2.1; omega) (fun q hq => by obtain ⟨z, hz, rfl⟩ := List.mem_map.1 hq; have := HX.out.2.2.2.1 z hz; omega); obtain ⟨KU, hK_⟩ := hb_.rounds; have hu_ := spec_l27Used.calls KU A c (PS.map Prod.snd) x1 x2 x3 b wq (by rw [List.length_map]; exact Sp.kPos HS.out (i := 2) (j := 3) rfl rfl (fun q hq => hq)) (by rw [List.length_map]; exact (Sp.reads HS.out (i := 2) rfl).2.1) hK_; rw [List.length_map] at hu_; refine hu_.mono ?_; rintro e wu_ ⟨rfl, hbl_⟩; replace HS := A0_ (Sp.far HS.out hbl_); clear hu_ hb_ hbl_; have HUN := A0_ (show PS = [] → b = false from fun e_ => used_nil (by rw [e_] at hK_; exact hK_)); clear hK_; have hc0 := (cl_ HS 0 0 rfl).trans rfl; have hc1 := (cl_ HS 0 1 rfl).trans rfl; have hc2 := (cl_ HS 0 2 rfl).trans rfl; cases b))
     | ((with_reducible refine gate_dst (N := 78) rfl ?_); refine Kd.R_lit kC _ 94 ?hg (N := 78) ?hd (xs := ([(⟨x1, x2, x3⟩ : Cb)] : List Cb)) (inner := [.int .i64 x1, .int .i64 x2, .int .i64 x3]) (ok := fun _ => True) (okp := fun _ => True) ?hr ?hp (fun _ hk => hk) trivial (Below.refl _ _) (Nat.le_refl _) (by simp) ?_; (case hd => rfl); (case hg => rfl); (case hr => first | (go_simp; done) | (go_simp; rfl)); (case hp => exact (Reps.c3 (reps1C _ _ _ (⟨x1, x2, x3⟩ : Cb)) (Reps.none _ _))); intro vl_ wl_ ho_ hb_ hg_ hn_; clear hg_ hn_; replace HS := A0_ (Sp.made' HS.out hb_ ho_); clear ho_ hb_; obtain ⟨Al, cl, ev_⟩ := Sp.slice HS.out (i := 0) rfl; subst ev_; clear hc0 hc1 hc2)
     | ((with_reducible refine gate_dst (N := 79) rfl ?_); refine Kd.R_lit kSl _ 35 ?hg (N := 79) ?hd (xs := ([(Al, 1, cl)] : List Sl)) (inner := [.slice Al 1 cl]) (ok := fun _ => True) (okp := fun _ => True) ?hr ?hp (fun _ hk => hk) trivial (Below.refl _ _) (Nat.le_refl _) (by simp) ?_; (case hd => rfl); (case hg => rfl); (case hr => first | (go_simp; done) | (go_simp; rfl)); (case hp => exact (Reps.one rfl (Reps.none _ _))); intro vl_ wl_ ho_ hb_ hg_ hn_; clear hg_ hn_; replace HS := A0_ (Sp.made' HS.out hb_ ho_); clear ho_ hb_; obtain ⟨Ag, cg, ev_⟩ := Sp.slice HS.out (i := 0) rfl; subst ev_)
     | ((with_reducible refine gate_builtin (b := .append) (xs := #[.tmp 76, .tmp 79]) rfl ?_); at_builtin; obtain ⟨fp_, ho_, hf_, hc_⟩ := Sp.row HS.out (i := 4) rfl; refine Kd.R_append_rows kSl (w0 := w0) w0.heap.size rfl (.tmp 76) (.tmp 79) 24 35 ((.slice none 0 0)) 24 rfl Try.underlying24 info35 rfl (by decide) (by omega) (.slice A PS.length c) ((PS.map Prod.fst)) (([(Al, 1, cl)] : List Sl)) _ _ _ _ (fun _ => False) rfl rfl ho_ ((Sp.reads HS.out (i := 0) rfl).2.2) (fun _ _ h => h) (fun _ h => h.elim) (fun _ h => Or.inr h) HS.out.below HS.out.below.size ?aL ?_; (case aL => (have := HX.out.2.1; simp only [List.length_cons, List.length_nil, List.length_map]; omega)); intro va_ wa_ ho hb hg hat; replace HS := A0_ (hc_ _ _ _ ho hg); clear ho hb hg hat hc_ hf_ ho_ fp_; obtain ⟨A2, c2, ev_⟩ := Sp.slice HS.out (i := 4) rfl; subst ev_))
    ·go_roundg k1
     case measure => omega
     case rel =>
      rw [wrap_pred n HCN.out (by have := HX.out.2.1; omega)]
      have h1 := Sp.poolGAdd (show Sp w0 (Res.row kC 94 w0.heap.size (.slice Al 1 cl) ([⟨x1, x2, x3⟩] : List Cb) :: Res.poolG kC 94 w0.heap.size PS :: ([Res.row kSl 35 w0.heap.size (.slice Ag 1 cg) ([(Al, 1, cl)] : List Sl), Res.blk gc #[.int .i64 x1, .int .i64 x2, .int .i64 x3] 94, srcR w0 gs code _ _, Res.row kSl 35 w0.heap.size (.slice A2 (PS.map Prod.fst ++ ([(Al, 1, cl)] : List Sl)).length c2) (PS.map Prod.fst ++ ([(Al, 1, cl)] : List Sl)), Res.blk gr #[.slice none 0 0] 26] ++ rest)) _ from Sp.arr (pre := [Res.row kSl 35 w0.heap.size (.slice Ag 1 cg) ([(Al, 1, cl)] : List Sl), Res.row kC 94 w0.heap.size (.slice Al 1 cl) ([⟨x1, x2, x3⟩] : List Cb), Res.blk gc #[.int .i64 x1, .int .i64 x2, .int .i64 x3] 94, srcR w0 gs code _ _, Res.row kSl 35 w0.heap.size (.slice A2 (PS.map Prod.fst ++ ([(Al, 1, cl)] : List Sl)).length c2) (PS.map Prod.fst ++ ([(Al, 1, cl)] : List Sl)), Res.poolG kC 94 w0.heap.size PS, Res.blk gr #[.slice none 0 0] 26]) (pre' := [Res.row kC 94 w0.heap.size (.slice Al 1 cl) ([⟨x1, x2, x3⟩] : List Cb), Res.poolG kC 94 w0.heap.size PS, Res.row kSl 35 w0.heap.size (.slice Ag 1 cg) ([(Al, 1, cl)] : List Sl), Res.blk gc #[.int .i64 x1, .int .i64 x2, .int .i64 x3] 94, srcR w0 gs code _ _, Res.row kSl 35 w0.heap.size (.slice A2 (PS.map Prod.fst ++ ([(Al, 1, cl)] : List Sl)).length c2) (PS.map Prod.fst ++ ([(Al, 1, cl)] : List Sl)), Res.blk gr #[.slice none 0 0] 26]) [1, 5, 0, 2, 3, 4, 6] HS.out rfl rfl)
      have h2 : Sp w0 ([Res.poolG kC 94 w0.heap.size (PS ++ [((Al, 1, cl), ([⟨x1, x2, x3⟩] : List Cb))]), srcR w0 gs code _ _, Res.row kSl 35 w0.heap.size (.slice A2 (PS.map Prod.fst ++ ([(Al, 1, cl)] : List Sl)).length c2) (PS.map Prod.fst ++ ([(Al, 1, cl)] : List Sl)), Res.blk gr #[.slice none 0 0] 26] ++ rest) _ := Sp.out (Sp.out h1 1) 1
      have h3 := Sp.arr (pre' := [srcR w0 gs code _ _, Res.row kSl 35 w0.heap.size (.slice A2 (PS.map Prod.fst ++ ([(Al, 1, cl)] : List Sl)).length c2) (PS.map Prod.fst ++ ([(Al, 1, cl)] : List Sl)), Res.poolG kC 94 w0.heap.size (PS ++ [((Al, 1, cl), ([⟨x1, x2, x3⟩] : List Cb))]), Res.blk gr #[.slice none 0 0] 26]) [1, 2, 0, 3] h2 rfl rfl
      have el : (PS ++ [((Al, 1, cl), ([⟨x1, x2, x3⟩] : List Cb))]).length = PS.length + 1 := by simp
      have em : (PS ++ [((Al, 1, cl), ([⟨x1, x2, x3⟩] : List Cb))]).map Prod.fst = PS.map Prod.fst ++ ([(Al, 1, cl)] : List Sl) := by simp
      have en : (PS.map Prod.fst ++ ([(Al, 1, cl)] : List Sl)).length = (PS ++ [((Al, 1, cl), ([⟨x1, x2, x3⟩] : List Cb))]).length := by simp
      rw [en] at h3
      refine ⟨n - 1, PS ++ [((Al, 1, cl), ([⟨x1, x2, x3⟩] : List Cb))], A2, c2, _, _, rfl, by rw [el], ⟨by have := HX.out.1; have := HCN.out; omega, by rw [el]; have := HX.out.2.1; have := HCN.out; omega, by rw [el]; omega, fun q hq => ?_, HSR.out⟩, ⟨by rw [em]; exact h3⟩⟩
      rcases List.mem_append.1 hq with hq | hq
      ·exact HX.out.2.2.2.1 q hq
      ·obtain rfl := List.mem_singleton.1 hq; rfl
    ·go_roundg k1
     case measure => omega
     case rel =>
      rw [wrap_pred n HCN.out (by have := HX.out.2.1; omega)]
      have hne : 1 ≤ PS.length := by
       rcases Nat.eq_zero_or_pos PS.length with h | h
       ·exact absurd (HUN.out (List.length_eq_zero_iff.1 h)) (by simp)
       ·exact h
      exact ⟨n - 1, PS, A, c, _, _, rfl, rfl, ⟨by have := HX.out.1; have := HCN.out; omega, by have := HX.out.2.1; omega, by omega, HX.out.2.2.2.1, HSR.out⟩, ⟨Sp.out HS.out 0⟩⟩
   ·have q0 : decide (0 < n) = false := decide_eq_false cn
    have q1 : ((n : Int) > 0) = False := eq_false (by omega)
    have q2 : ((0 : Int) < (n : Int)) = False := eq_false (by omega)
    have q3 : (0 < n) = False := eq_false cn
    have HPN := A0_ (show 1 ≤ PS.length ∧ PS.length ≤ 4 by have := HX.out; omega)
    have HP1 := A0_ HX.out.2.2.2.1
    clear cn
    go_wp2_with (first
     | (go_at_call 57; go_loud (refine (next_calls HOK.out HSR.out _ ([Res.row kSl 35 w0.heap.size (.slice A PS.length c) (PS.map Prod.fst), Res.poolG kC 94 w0.heap.size PS, Res.blk gr #[.slice none 0 0] 26] ++ rest) _ HS.out).mono ?_; rintro e w5 ⟨r3, p3, s3, rfl, hr_, hS1, hs_⟩; clear HSR; have HSR := A0_ hS1; replace HS := A0_ (hs_); obtain ⟨n0, hn0⟩ : ∃ n0 : Nat, r3 = (n0 : Int) := ⟨r3.toNat, by omega⟩; subst hn0; have HN0 := A0_ (show n0 < 14 by omega); clear hs_ hS1 hr_)))
    clear q0 q1 q2 q3
    go_loopg [8] (n0 + 1) (fun kq v8 w' => ∃ (n : Nat) (QS L : List (Sl × List Cb)) (p s : Int), v8 = .int .i64 (n : Int) ∧ Aside0 (kq = n + 1 ∧ QS.length = PS.length ∧ (∀ q ∈ QS, q ∈ L) ∧ (∀ q ∈ QS, 1 ≤ q.2.length ∧ q.2.length + n ≤ 15) ∧ SrcOk code p s) ∧ Aside0 (Sp w0 ([srcR w0 gs code p s, Res.row kSl 35 w0.heap.size (.slice A PS.length c) (QS.map Prod.fst), Res.poolG kC 94 w0.heap.size L, Res.blk gr #[.slice none 0 0] 26] ++ rest) w'))
    case atStart => exact ⟨n0, PS, PS, p3, s3, rfl, ⟨rfl, rfl, fun q hq => hq, fun q hq => by have := HP1.out q hq; have := HN0.out; omega, HSR.out⟩, HS⟩
    case round =>
     clear HS HSR
     obtain ⟨n, QS, L, p, s, rfl, HY, HS⟩ := hrel
     obtain ⟨k1, rfl⟩ : ∃ k1, gk = k1 + 1 := ⟨gk - 1, by have := HY.out.1; omega⟩
     have HSR := A0_ HY.out.2.2.2.2
     by_cases cn : 0 < n
     ·have q0 : decide (0 < n) = true := decide_eq_true cn
      have q1 : ((n : Int) > 0) = True := eq_true (by omega)
      have q2 : ((0 : Int) < (n : Int)) = True := eq_true (by omega)
      have q3 : (0 < n) = True := eq_true cn
      have HCN := A0_ cn
      obtain ⟨ad, e_⟩ := Sp.some_ HS.out (i := 1) rfl (by have := HPN.out; omega)
      subst e_
      clear cn
      go_upto_region 23 with (first
       | (go_at_call 57; go_loud (refine (next_nat HOK.out HSR.out PS.length (by have := HPN.out; omega) (i := 0) rfl _ HS.out).mono ?_; rintro e w5 ⟨k0, p5, s5, rfl, hr_, hS1, hs_⟩; clear HSR; have HSR := A0_ hS1; replace HS := A0_ (hs_); have HK0 := A0_ hr_; clear hs_ hS1 hr_)))
      have HS_ : Aside0 (Sp w0 ([srcR w0 gs code p5 s5, Res.row kSl 35 w0.heap.size (.slice (some ad) PS.length c) (QS.map Prod.fst), Res.poolG kC 94 w0.heap.size L, Res.blk gr #[.slice none 0 0] 26] ++ rest) _) := HS; clear HS; have HS := HS_; clear HS_
      obtain ⟨⟨⟨Aq, nq, cq⟩, oq⟩, hq_⟩ : ∃ q, q = QS.getD k0 default := ⟨_, rfl⟩
      have hkq : k0 < QS.length := by have := HY.out.2.1; have := HK0.out; omega
      have hqm : ((Aq, nq, cq), oq) ∈ QS := by rw [hq_, List.getD_eq_getElem?_getD, List.getElem?_eq_getElem hkq]; exact List.getElem_mem hkq
      have HQK := A0_ (show (QS.map Prod.fst).getD k0 (none, 0, 0) = (Aq, nq, cq) by rw [List.getD_eq_getElem?_getD, List.getElem?_map, List.getElem?_eq_getElem hkq]; rw [List.getD_eq_getElem?_getD, List.getElem?_eq_getElem hkq] at hq_; simp only [Option.map_some, Option.getD_some] at hq_ ⊢; rw [← hq_])
      have HQM := A0_ (HY.out.2.2.1 _ hqm)
      have HQ2 := A0_ (HY.out.2.2.2.1 _ hqm)
      have hnq := (Sp.poolGC HS.out (i := 2) rfl HQM.out).1
      replace hnq : nq = oq.length := hnq
      subst hnq
      obtain ⟨adq, eq_, _⟩ := Sp.poolCube HS.out (i := 2) rfl HQM.out 0 (by have := HQ2.out.1; exact this)
      subst eq_
      have x0 : (0 ≤ (k0 : Int)) = True := eq_true (by omega)
      have x1 : ((k0 : Int) < (PS.length : Int)) = True := eq_true (by have := HK0.out; omega)
      have x2 : (k0 < PS.length) = True := eq_true HK0.out
      clear hkq hqm hq_
      go_cut [10] from 91 to 109 (fun v10 w' => ∃ (gc : Nat) (x : Cb) (p s : Int), v10 = .pointer (some ⟨gc, 0, none⟩) ∧ Aside0 (SrcOk code p s) ∧ Aside0 (Sp w0 ([Res.blk gc #[.int .i64 x.f0, .int .i64 x.f1, .int .i64 x.f2] 94, srcR w0 gs code p s, Res.row kSl 35 w0.heap.size (.slice (some ad) PS.length c) (QS.map Prod.fst), Res.poolG kC 94 w0.heap.size L, Res.blk gr #[.slice none 0 0] 26] ++ rest) w'))
      case first =>
       go_wp2
       replace HS := A0_ (Sp.drew HS.out)
       refine start_ (n := 21) (S := fun w' => w'.cell? (ad.add k0) = some (.slice (some adq) oq.length cq) ∧ (∀ j, j < oq.length → w'.cell? (adq.add (j * 3)) = some (.int .i64 (cAt oq j).f0) ∧ w'.cell? ⟨(adq.add (j * 3)).block, (adq.add (j * 3)).off + 1, none⟩ = some (.int .i64 (cAt oq j).f1) ∧ w'.cell? ⟨(adq.add (j * 3)).block, (adq.add (j * 3)).off + 2, none⟩ = some (.int .i64 (cAt oq j).f2))) (ds := [20]) #[false, false, false, false, false, false, false, false, false, false, false, false, false, false, false, false, false, false, false, false, false] (by kernel_rfl) rfl rfl (⟨Sp.slCellV HS.out (i := 1) rfl k0 HK0.out HQK.out, fun j hj => poolCubes HS.out (i := 2) rfl HQM.out j hj⟩) (fun hHeld => ?_)
       refine with_tabW drwF.tab23 drwF.bits23 (fun HT_ HW_ => ?_)
       generalize w5.drew = wD23_ at HS hHeld ⊢
       refine on_ 0 (some 91) ?_
       refine on_ 1 (some 92) ?_
       refine on_ 2 (some 93) ?_
       refine tk_ 3 (some 94) ?_
       refine on_ 4 (some 95) ?_
       refine on_ 5 (some 96) ?_
       refine on_ 6 (some 97) ?_
       refine on_ 7 (some 98) ?_
       refine tk_ 8 (some 99) ?_
       refine on_ 9 (some 100) ?_
       refine on_ 14 (some 105) ?_
       refine o2_ 10 19 (some 101) (some 10) (fun K hK => ?_) (fun K hK => ?_)
       ·refine gs_ Try.func57 #[.pointer (some ⟨gs, 0, none⟩), .int .i64 (oq.length : Int)] ?_
        refine (next_nat HOK.out HSR.out (oq.length) (HQ2.out.1) (i := 0) rfl _ HS.out).mono ?_
        rintro e wA11 ⟨j1, pA11, sA11, rfl, hr_, hS1, hs_⟩
        refine ⟨_, rfl, ?_⟩
        clear HSR
        have HSR := A0_ hS1
        have HB_j1 := A0_ hr_
        replace HS := A0_ (hs_)
        clear hs_ hS1 hr_
        have y0 : (0 ≤ (j1 : Int)) = True := eq_true (by omega)
        have y1 : ((j1 : Int) < (oq.length : Int)) = True := eq_true (by have := HB_j1.out; omega)
        have y2 : (j1 < oq.length) = True := eq_true HB_j1.out
        obtain ⟨x, hx_⟩ : ∃ x, cAt oq j1 = x := ⟨_, rfl⟩
        have HX1 := A0_ hx_
        clear hx_
        refine hK.out _ _ (⟨Sp.slCellV HS.out (i := 1) rfl k0 HK0.out HQK.out, fun j hj => poolCubes HS.out (i := 2) rfl HQM.out j hj⟩) (fun hHeld => ?_)
        clear hK K
        refine nm_ (some 101) ?_
        refine on_ 11 (some 102) ?_
        refine take_ (i := 12) (N := (some 103)) (v := ?_) (a' := ?_) #[true, true, true, true, true, true, true, true, true, true, true, true, true, false, true, false, false, false, false, false, false] rfl rfl (take_ofW HT_.out HW_.out (by kernel_rfl)) (fun _ _ _ h => h) (Or.inl ⟨by rfl, ?_⟩) hHeld ?_ ?_
        rotate_left
        ·rintro w' ⟨s0, s1⟩
         obtain ⟨hx0, hx1, hx2⟩ := s1 j1 HB_j1.out
         rw [HX1.out] at hx0 hx1 hx2
         clear s1
         go_simp
         with_reducible rfl
        rotate_left
        ·simp only [Act.put, List.setIfInBounds_toArray, List.set_cons_zero, List.set_cons_succ, i64_w, i32_w]
         rfl
        refine o2_ 13 19 (some 104) (some 10) (fun K hK => ?_) (fun K hK => ?_)
        ·refine gs_ Try.func95 #[] ?_
         refine (spec_l09Steps.calls _ _ rfl).mono ?_
         rintro e wA12 ⟨vA12, rfl, ho, hb⟩
         refine ⟨_, rfl, ?_⟩
         replace HS := A0_ (Sp.made' HS.out hb ho)
         clear hb ho
         obtain ⟨AA12, cA12, e_⟩ := Sp.slice HS.out (i := 0) rfl
         subst e_
         have hsl := (Sp.reads HS.out (i := 0) rfl).1
         obtain ⟨adt, et_⟩ := Sp.some_ HS.out (i := 0) rfl (by decide)
         subst et_
         clear hsl
         refine hK.out _ _ (⟨Sp.slCellV HS.out (i := 2) rfl k0 HK0.out HQK.out, fun j hj => poolCubes HS.out (i := 3) rfl HQM.out j hj⟩) (fun hHeld => ?_)
         clear hK K
         refine nm_ (some 104) ?_
         refine o2_ 15 19 (some 106) (some 10) (fun K hK => ?_) (fun K hK => ?_)
         ·refine gs_ Try.func57 #[.pointer (some ⟨gs, 0, none⟩), .int .i64 (6 : Int)] ?_
          refine (next_nat HOK.out HSR.out (6) (by decide) (i := 1) rfl _ HS.out).mono ?_
          rintro e wA13 ⟨j2, pA13, sA13, rfl, hr_, hS1, hs_⟩
          refine ⟨_, rfl, ?_⟩
          clear HSR
          have HSR := A0_ hS1
          have HB_j2 := A0_ hr_
          replace HS := A0_ (hs_)
          clear hs_ hS1 hr_
          have z0 : (0 ≤ (j2 : Int)) = True := eq_true (by omega)
          have z1 : ((j2 : Int) < 6) = True := eq_true (by have := HB_j2.out; omega)
          have z2 : (j2 < 6) = True := eq_true HB_j2.out
          refine hK.out _ _ (⟨Sp.slCellV HS.out (i := 2) rfl k0 HK0.out HQK.out, fun j hj => poolCubes HS.out (i := 3) rfl HQM.out j hj⟩) (fun hHeld => ?_)
          clear hK K
          refine nm_ (some 106) ?_
          refine on_ 16 (some 107) ?_
          refine o2_ 17 19 (some 108) (some 10) (fun K hK => ?_) (fun K hK => ?_)
          ·obtain ⟨hx0, hx1, hx2⟩ := Sp.cubeCell HS.out (i := 0) rfl j2 HB_j2.out
           obtain ⟨y, hx⟩ : ∃ x, cAt stepsL j2 = x := ⟨_, rfl⟩
           rw [hx] at hx0 hx1 hx2
           refine event_step (v := .agg #[.int .i64 y.f0, .int .i64 y.f1, .int .i64 y.f2]) (w1 := wA13) (by rfl) (by first | (go_simp; done) | (go_simp; rfl)) ?_
           clear hx hx0 hx1 hx2
           refine hK.out _ _ (⟨Sp.slCellV HS.out (i := 2) rfl k0 HK0.out HQK.out, fun j hj => poolCubes HS.out (i := 3) rfl HQM.out j hj⟩) (fun hHeld => ?_)
           clear hK K
           refine nm_ (some 108) ?_
           refine o2_ 18 19 (some 109) (some 10) (fun K hK => ?_) (fun K hK => ?_)
           ·refine gs_ Try.func89 #[.agg #[.int .i64 x.f0, .int .i64 x.f1, .int .i64 x.f2], .agg #[.int .i64 y.f0, .int .i64 y.f1, .int .i64 y.f2]] ?_
            refine (spec_l09Add.calls x.f0 x.f1 x.f2 y.f0 y.f1 y.f2 _ _ _ _ rfl).mono ?_
            rintro e wA14 ⟨rfl, hb⟩
            refine ⟨_, rfl, ?_⟩
            replace HS := A0_ (Sp.far HS.out hb)
            clear hb
            refine hK.out _ _ (⟨Sp.slCellV HS.out (i := 2) rfl k0 HK0.out HQK.out, fun j hj => poolCubes HS.out (i := 3) rfl HQM.out j hj⟩) (fun hHeld => ?_)
            clear hK K
            refine nm_ (some 109) ?_
            refine o1_ 19 (some 10) (fun K hK => ?_)
            refine event_step (v := .pointer (some ⟨wA14.heap.size, 0, none⟩)) (w1 := wA14.alloc (.cells #[.int .i64 0, .int .i64 0, .int .i64 0] 94)) (by rfl) (by first | (go_simp; done) | (go_simp; rfl)) ?_
            obtain ⟨gc, hg_⟩ : ∃ g_, g_ = (wA14).heap.size := ⟨_, rfl⟩
            obtain ⟨wB15, hw_⟩ : ∃ w_, w_ = World.alloc wA14 (.cells #[.int .i64 0, .int .i64 0, .int .i64 0] 94) := ⟨_, rfl⟩
            rw [← hw_, ← hg_]
            have HS_ := A0_ (Sp.box HS.out #[.int .i64 0, .int .i64 0, .int .i64 0] 94)
            rw [← hw_, ← hg_] at HS_
            clear HS
            have HS := HS_
            clear HS_ hw_ hg_
            refine hK.out _ _ (⟨Sp.slCellV HS.out (i := 3) rfl k0 HK0.out HQK.out, fun j hj => poolCubes HS.out (i := 4) rfl HQM.out j hj⟩) (fun hHeld => ?_)
            clear hK K
            refine nm_ (some 10) ?_
            refine ol_ 20 none (fun K hK => ?_)
            refine skip_ (w1 := wB15.setCells gc 0 (#[.int .i64 (wrap64 (x.f0 + y.f0)), .int .i64 (wrap64 (x.f1 + y.f1)), .int .i64 (wrap64 (x.f2 + y.f2))] : Array Value).toList) (by rfl) rfl (exec_store (v := .pointer (some ⟨gc, 0, none⟩)) (u := (.agg #[.int .i64 (wrap64 (x.f0 + y.f0)), .int .i64 (wrap64 (x.f1 + y.f1)), .int .i64 (wrap64 (x.f2 + y.f2))])) rfl (by first | rfl | (go_simp; done) | (go_simp; rfl)) (by first | rfl | (go_simp; done) | (go_simp; rfl)) (Sp.blkStore HS.out (i := 0) rfl ((.agg #[.int .i64 (wrap64 (x.f0 + y.f0)), .int .i64 (wrap64 (x.f1 + y.f1)), .int .i64 (wrap64 (x.f2 + y.f2))])) (#[.int .i64 (wrap64 (x.f0 + y.f0)), .int .i64 (wrap64 (x.f1 + y.f1)), .int .i64 (wrap64 (x.f2 + y.f2))]) rfl rfl (by kernel_rfl) (by first | (simp; done) | (simp [Value.oneCell']; done) | (simp; exact ⟨rfl, rfl, rfl⟩)))) ?_
            obtain ⟨wS16, hw_⟩ : ∃ w_, w_ = wB15.setCells gc 0 (#[.int .i64 (wrap64 (x.f0 + y.f0)), .int .i64 (wrap64 (x.f1 + y.f1)), .int .i64 (wrap64 (x.f2 + y.f2))] : Array Value).toList := ⟨_, rfl⟩
            rw [← hw_]
            have HS_ := A0_ (Sp.blkAll HS.out (i := 0) rfl (#[.int .i64 (wrap64 (x.f0 + y.f0)), .int .i64 (wrap64 (x.f1 + y.f1)), .int .i64 (wrap64 (x.f2 + y.f2))]) rfl)
            rw [← hw_] at HS_
            clear HS
            have HS := HS_
            clear HS_ hw_
            refine hK.out _ _ ?_
            clear hK K
            refine dn_ ?_
            replace HS := A0_ (Sp.arr (pre := [Res.blk gc #[.int .i64 (wrap64 (x.f0 + y.f0)), .int .i64 (wrap64 (x.f1 + y.f1)), .int .i64 (wrap64 (x.f2 + y.f2))] 94, Res.row kC 94 w0.heap.size (.slice (some adt) stepsL.length cA12) stepsL, srcR w0 gs code pA13 sA13, Res.row kSl 35 w0.heap.size (.slice (some ad) PS.length c) (QS.map Prod.fst), Res.poolG kC 94 w0.heap.size L, Res.blk gr #[.slice none 0 0] 26]) (pre' := [Res.blk gc #[.int .i64 (wrap64 (x.f0 + y.f0)), .int .i64 (wrap64 (x.f1 + y.f1)), .int .i64 (wrap64 (x.f2 + y.f2))] 94, srcR w0 gs code pA13 sA13, Res.row kSl 35 w0.heap.size (.slice (some ad) PS.length c) (QS.map Prod.fst), Res.poolG kC 94 w0.heap.size L, Res.blk gr #[.slice none 0 0] 26, Res.row kC 94 w0.heap.size (.slice (some adt) stepsL.length cA12) stepsL]) (rest := rest) [0, 2, 3, 4, 5, 1] HS.out rfl rfl)
            replace HS := A0_ ((show Sp w0 ([Res.blk gc #[.int .i64 (wrap64 (x.f0 + y.f0)), .int .i64 (wrap64 (x.f1 + y.f1)), .int .i64 (wrap64 (x.f2 + y.f2))] 94, srcR w0 gs code pA13 sA13, Res.row kSl 35 w0.heap.size (.slice (some ad) PS.length c) (QS.map Prod.fst), Res.poolG kC 94 w0.heap.size L, Res.blk gr #[.slice none 0 0] 26] ++ rest) _ from Sp.out (HS.out) 5))
            go_wp2
            go_meet
            case rel => exact ⟨gc, ⟨wrap64 (x.f0 + y.f0), wrap64 (x.f1 + y.f1), wrap64 (x.f2 + y.f2)⟩, _, _, rfl, HSR, HS⟩
           ·refine event_step (v := .pointer (some ⟨wA13.heap.size, 0, none⟩)) (w1 := wA13.alloc (.cells #[.int .i64 0, .int .i64 0, .int .i64 0] 94)) (by rfl) (by first | (go_simp; done) | (go_simp; rfl)) ?_
            obtain ⟨gc, hg_⟩ : ∃ g_, g_ = (wA13).heap.size := ⟨_, rfl⟩
            obtain ⟨wB14, hw_⟩ : ∃ w_, w_ = World.alloc wA13 (.cells #[.int .i64 0, .int .i64 0, .int .i64 0] 94) := ⟨_, rfl⟩
            rw [← hw_, ← hg_]
            have HS_ := A0_ (Sp.box HS.out #[.int .i64 0, .int .i64 0, .int .i64 0] 94)
            rw [← hw_, ← hg_] at HS_
            clear HS
            have HS := HS_
            clear HS_ hw_ hg_
            refine hK.out _ _ (⟨Sp.slCellV HS.out (i := 3) rfl k0 HK0.out HQK.out, fun j hj => poolCubes HS.out (i := 4) rfl HQM.out j hj⟩) (fun hHeld => ?_)
            clear hK K
            refine nm_ (some 10) ?_
            refine o1_ 18 (some 109) (fun K hK => ?_)
            refine gs_ Try.func89 #[.agg #[.int .i64 x.f0, .int .i64 x.f1, .int .i64 x.f2], .agg #[.int .i64 y.f0, .int .i64 y.f1, .int .i64 y.f2]] ?_
            refine (spec_l09Add.calls x.f0 x.f1 x.f2 y.f0 y.f1 y.f2 _ _ _ _ rfl).mono ?_
            rintro e wA15 ⟨rfl, hb⟩
            refine ⟨_, rfl, ?_⟩
            replace HS := A0_ (Sp.far HS.out hb)
            clear hb
            refine hK.out _ _ (⟨Sp.slCellV HS.out (i := 3) rfl k0 HK0.out HQK.out, fun j hj => poolCubes HS.out (i := 4) rfl HQM.out j hj⟩) (fun hHeld => ?_)
            clear hK K
            refine nm_ (some 109) ?_
            refine ol_ 20 none (fun K hK => ?_)
            refine skip_ (w1 := wA15.setCells gc 0 (#[.int .i64 (wrap64 (x.f0 + y.f0)), .int .i64 (wrap64 (x.f1 + y.f1)), .int .i64 (wrap64 (x.f2 + y.f2))] : Array Value).toList) (by rfl) rfl (exec_store (v := .pointer (some ⟨gc, 0, none⟩)) (u := (.agg #[.int .i64 (wrap64 (x.f0 + y.f0)), .int .i64 (wrap64 (x.f1 + y.f1)), .int .i64 (wrap64 (x.f2 + y.f2))])) rfl (by first | rfl | (go_simp; done) | (go_simp; rfl)) (by first | rfl | (go_simp; done) | (go_simp; rfl)) (Sp.blkStore HS.out (i := 0) rfl ((.agg #[.int .i64 (wrap64 (x.f0 + y.f0)), .int .i64 (wrap64 (x.f1 + y.f1)), .int .i64 (wrap64 (x.f2 + y.f2))])) (#[.int .i64 (wrap64 (x.f0 + y.f0)), .int .i64 (wrap64 (x.f1 + y.f1)), .int .i64 (wrap64 (x.f2 + y.f2))]) rfl rfl (by kernel_rfl) (by first | (simp; done) | (simp [Value.oneCell']; done) | (simp; exact ⟨rfl, rfl, rfl⟩)))) ?_
            obtain ⟨wS16, hw_⟩ : ∃ w_, w_ = wA15.setCells gc 0 (#[.int .i64 (wrap64 (x.f0 + y.f0)), .int .i64 (wrap64 (x.f1 + y.f1)), .int .i64 (wrap64 (x.f2 + y.f2))] : Array Value).toList := ⟨_, rfl⟩
            rw [← hw_]
            have HS_ := A0_ (Sp.blkAll HS.out (i := 0) rfl (#[.int .i64 (wrap64 (x.f0 + y.f0)), .int .i64 (wrap64 (x.f1 + y.f1)), .int .i64 (wrap64 (x.f2 + y.f2))]) rfl)
            rw [← hw_] at HS_
            clear HS
            have HS := HS_
            clear HS_ hw_
            refine hK.out _ _ ?_
            clear hK K
            refine dn_ ?_
            replace HS := A0_ (Sp.arr (pre := [Res.blk gc #[.int .i64 (wrap64 (x.f0 + y.f0)), .int .i64 (wrap64 (x.f1 + y.f1)), .int .i64 (wrap64 (x.f2 + y.f2))] 94, Res.row kC 94 w0.heap.size (.slice (some adt) stepsL.length cA12) stepsL, srcR w0 gs code pA13 sA13, Res.row kSl 35 w0.heap.size (.slice (some ad) PS.length c) (QS.map Prod.fst), Res.poolG kC 94 w0.heap.size L, Res.blk gr #[.slice none 0 0] 26]) (pre' := [Res.blk gc #[.int .i64 (wrap64 (x.f0 + y.f0)), .int .i64 (wrap64 (x.f1 + y.f1)), .int .i64 (wrap64 (x.f2 + y.f2))] 94, srcR w0 gs code pA13 sA13, Res.row kSl 35 w0.heap.size (.slice (some ad) PS.length c) (QS.map Prod.fst), Res.poolG kC 94 w0.heap.size L, Res.blk gr #[.slice none 0 0] 26, Res.row kC 94 w0.heap.size (.slice (some adt) stepsL.length cA12) stepsL]) (rest := rest) [0, 2, 3, 4, 5, 1] HS.out rfl rfl)
            replace HS := A0_ ((show Sp w0 ([Res.blk gc #[.int .i64 (wrap64 (x.f0 + y.f0)), .int .i64 (wrap64 (x.f1 + y.f1)), .int .i64 (wrap64 (x.f2 + y.f2))] 94, srcR w0 gs code pA13 sA13, Res.row kSl 35 w0.heap.size (.slice (some ad) PS.length c) (QS.map Prod.fst), Res.poolG kC 94 w0.heap.size L, Res.blk gr #[.slice none 0 0] 26] ++ rest) _ from Sp.out (HS.out) 5))
            go_wp2
            go_meet
            case rel => exact ⟨gc, ⟨wrap64 (x.f0 + y.f0), wrap64 (x.f1 + y.f1), wrap64 (x.f2 + y.f2)⟩, _, _, rfl, HSR, HS⟩
          ·refine event_step (v := .pointer (some ⟨wA13.heap.size, 0, none⟩)) (w1 := wA13.alloc (.cells #[.int .i64 0, .int .i64 0, .int .i64 0] 94)) (by rfl) (by first | (go_simp; done) | (go_simp; rfl)) ?_
           obtain ⟨gc, hg_⟩ : ∃ g_, g_ = (wA13).heap.size := ⟨_, rfl⟩
           obtain ⟨wB14, hw_⟩ : ∃ w_, w_ = World.alloc wA13 (.cells #[.int .i64 0, .int .i64 0, .int .i64 0] 94) := ⟨_, rfl⟩
           rw [← hw_, ← hg_]
           have HS_ := A0_ (Sp.box HS.out #[.int .i64 0, .int .i64 0, .int .i64 0] 94)
           rw [← hw_, ← hg_] at HS_
           clear HS
           have HS := HS_
           clear HS_ hw_ hg_
           refine hK.out _ _ (⟨Sp.slCellV HS.out (i := 3) rfl k0 HK0.out HQK.out, fun j hj => poolCubes HS.out (i := 4) rfl HQM.out j hj⟩) (fun hHeld => ?_)
           clear hK K
           refine nm_ (some 10) ?_
           refine o1_ 17 (some 108) (fun K hK => ?_)
           obtain ⟨hx0, hx1, hx2⟩ := Sp.cubeCell HS.out (i := 1) rfl j2 HB_j2.out
           obtain ⟨y, hx⟩ : ∃ x, cAt stepsL j2 = x := ⟨_, rfl⟩
           rw [hx] at hx0 hx1 hx2
           refine event_step (v := .agg #[.int .i64 y.f0, .int .i64 y.f1, .int .i64 y.f2]) (w1 := wB14) (by rfl) (by first | (go_simp; done) | (go_simp; rfl)) ?_
           clear hx hx0 hx1 hx2
           refine hK.out _ _ (⟨Sp.slCellV HS.out (i := 3) rfl k0 HK0.out HQK.out, fun j hj => poolCubes HS.out (i := 4) rfl HQM.out j hj⟩) (fun hHeld => ?_)
           clear hK K
           refine nm_ (some 108) ?_
           refine o1_ 18 (some 109) (fun K hK => ?_)
           refine gs_ Try.func89 #[.agg #[.int .i64 x.f0, .int .i64 x.f1, .int .i64 x.f2], .agg #[.int .i64 y.f0, .int .i64 y.f1, .int .i64 y.f2]] ?_
           refine (spec_l09Add.calls x.f0 x.f1 x.f2 y.f0 y.f1 y.f2 _ _ _ _ rfl).mono ?_
           rintro e wA15 ⟨rfl, hb⟩
           refine ⟨_, rfl, ?_⟩
           replace HS := A0_ (Sp.far HS.out hb)
           clear hb
           refine hK.out _ _ (⟨Sp.slCellV HS.out (i := 3) rfl k0 HK0.out HQK.out, fun j hj => poolCubes HS.out (i := 4) rfl HQM.out j hj⟩) (fun hHeld => ?_)
           clear hK K
           refine nm_ (some 109) ?_
           refine ol_ 20 none (fun K hK => ?_)
           refine skip_ (w1 := wA15.setCells gc 0 (#[.int .i64 (wrap64 (x.f0 + y.f0)), .int .i64 (wrap64 (x.f1 + y.f1)), .int .i64 (wrap64 (x.f2 + y.f2))] : Array Value).toList) (by rfl) rfl (exec_store (v := .pointer (some ⟨gc, 0, none⟩)) (u := (.agg #[.int .i64 (wrap64 (x.f0 + y.f0)), .int .i64 (wrap64 (x.f1 + y.f1)), .int .i64 (wrap64 (x.f2 + y.f2))])) rfl (by first | rfl | (go_simp; done) | (go_simp; rfl)) (by first | rfl | (go_simp; done) | (go_simp; rfl)) (Sp.blkStore HS.out (i := 0) rfl ((.agg #[.int .i64 (wrap64 (x.f0 + y.f0)), .int .i64 (wrap64 (x.f1 + y.f1)), .int .i64 (wrap64 (x.f2 + y.f2))])) (#[.int .i64 (wrap64 (x.f0 + y.f0)), .int .i64 (wrap64 (x.f1 + y.f1)), .int .i64 (wrap64 (x.f2 + y.f2))]) rfl rfl (by kernel_rfl) (by first | (simp; done) | (simp [Value.oneCell']; done) | (simp; exact ⟨rfl, rfl, rfl⟩)))) ?_
           obtain ⟨wS16, hw_⟩ : ∃ w_, w_ = wA15.setCells gc 0 (#[.int .i64 (wrap64 (x.f0 + y.f0)), .int .i64 (wrap64 (x.f1 + y.f1)), .int .i64 (wrap64 (x.f2 + y.f2))] : Array Value).toList := ⟨_, rfl⟩
           rw [← hw_]
           have HS_ := A0_ (Sp.blkAll HS.out (i := 0) rfl (#[.int .i64 (wrap64 (x.f0 + y.f0)), .int .i64 (wrap64 (x.f1 + y.f1)), .int .i64 (wrap64 (x.f2 + y.f2))]) rfl)
           rw [← hw_] at HS_
           clear HS
           have HS := HS_
           clear HS_ hw_
           refine hK.out _ _ ?_
           clear hK K
           refine dn_ ?_
           replace HS := A0_ (Sp.arr (pre := [Res.blk gc #[.int .i64 (wrap64 (x.f0 + y.f0)), .int .i64 (wrap64 (x.f1 + y.f1)), .int .i64 (wrap64 (x.f2 + y.f2))] 94, Res.row kC 94 w0.heap.size (.slice (some adt) stepsL.length cA12) stepsL, srcR w0 gs code pA13 sA13, Res.row kSl 35 w0.heap.size (.slice (some ad) PS.length c) (QS.map Prod.fst), Res.poolG kC 94 w0.heap.size L, Res.blk gr #[.slice none 0 0] 26]) (pre' := [Res.blk gc #[.int .i64 (wrap64 (x.f0 + y.f0)), .int .i64 (wrap64 (x.f1 + y.f1)), .int .i64 (wrap64 (x.f2 + y.f2))] 94, srcR w0 gs code pA13 sA13, Res.row kSl 35 w0.heap.size (.slice (some ad) PS.length c) (QS.map Prod.fst), Res.poolG kC 94 w0.heap.size L, Res.blk gr #[.slice none 0 0] 26, Res.row kC 94 w0.heap.size (.slice (some adt) stepsL.length cA12) stepsL]) (rest := rest) [0, 2, 3, 4, 5, 1] HS.out rfl rfl)
           replace HS := A0_ ((show Sp w0 ([Res.blk gc #[.int .i64 (wrap64 (x.f0 + y.f0)), .int .i64 (wrap64 (x.f1 + y.f1)), .int .i64 (wrap64 (x.f2 + y.f2))] 94, srcR w0 gs code pA13 sA13, Res.row kSl 35 w0.heap.size (.slice (some ad) PS.length c) (QS.map Prod.fst), Res.poolG kC 94 w0.heap.size L, Res.blk gr #[.slice none 0 0] 26] ++ rest) _ from Sp.out (HS.out) 5))
           go_wp2
           go_meet
           case rel => exact ⟨gc, ⟨wrap64 (x.f0 + y.f0), wrap64 (x.f1 + y.f1), wrap64 (x.f2 + y.f2)⟩, _, _, rfl, HSR, HS⟩
         ·refine event_step (v := .pointer (some ⟨wA12.heap.size, 0, none⟩)) (w1 := wA12.alloc (.cells #[.int .i64 0, .int .i64 0, .int .i64 0] 94)) (by rfl) (by first | (go_simp; done) | (go_simp; rfl)) ?_
          obtain ⟨gc, hg_⟩ : ∃ g_, g_ = (wA12).heap.size := ⟨_, rfl⟩
          obtain ⟨wB13, hw_⟩ : ∃ w_, w_ = World.alloc wA12 (.cells #[.int .i64 0, .int .i64 0, .int .i64 0] 94) := ⟨_, rfl⟩
          rw [← hw_, ← hg_]
          have HS_ := A0_ (Sp.box HS.out #[.int .i64 0, .int .i64 0, .int .i64 0] 94)
          rw [← hw_, ← hg_] at HS_
          clear HS
          have HS := HS_
          clear HS_ hw_ hg_
          refine hK.out _ _ (⟨Sp.slCellV HS.out (i := 3) rfl k0 HK0.out HQK.out, fun j hj => poolCubes HS.out (i := 4) rfl HQM.out j hj⟩) (fun hHeld => ?_)
          clear hK K
          refine nm_ (some 10) ?_
          refine o1_ 15 (some 106) (fun K hK => ?_)
          refine gs_ Try.func57 #[.pointer (some ⟨gs, 0, none⟩), .int .i64 (6 : Int)] ?_
          refine (next_nat HOK.out HSR.out (6) (by decide) (i := 2) rfl _ HS.out).mono ?_
          rintro e wA14 ⟨j2, pA14, sA14, rfl, hr_, hS1, hs_⟩
          refine ⟨_, rfl, ?_⟩
          clear HSR
          have HSR := A0_ hS1
          have HB_j2 := A0_ hr_
          replace HS := A0_ (hs_)
          clear hs_ hS1 hr_
          have z0 : (0 ≤ (j2 : Int)) = True := eq_true (by omega)
          have z1 : ((j2 : Int) < 6) = True := eq_true (by have := HB_j2.out; omega)
          have z2 : (j2 < 6) = True := eq_true HB_j2.out
          refine hK.out _ _ (⟨Sp.slCellV HS.out (i := 3) rfl k0 HK0.out HQK.out, fun j hj => poolCubes HS.out (i := 4) rfl HQM.out j hj⟩) (fun hHeld => ?_)
          clear hK K
          refine nm_ (some 106) ?_
          refine on_ 16 (some 107) ?_
          refine o1_ 17 (some 108) (fun K hK => ?_)
          obtain ⟨hx0, hx1, hx2⟩ := Sp.cubeCell HS.out (i := 1) rfl j2 HB_j2.out
          obtain ⟨y, hx⟩ : ∃ x, cAt stepsL j2 = x := ⟨_, rfl⟩
          rw [hx] at hx0 hx1 hx2
          refine event_step (v := .agg #[.int .i64 y.f0, .int .i64 y.f1, .int .i64 y.f2]) (w1 := wA14) (by rfl) (by first | (go_simp; done) | (go_simp; rfl)) ?_
          clear hx hx0 hx1 hx2
          refine hK.out _ _ (⟨Sp.slCellV HS.out (i := 3) rfl k0 HK0.out HQK.out, fun j hj => poolCubes HS.out (i := 4) rfl HQM.out j hj⟩) (fun hHeld => ?_)
          clear hK K
          refine nm_ (some 108) ?_
          refine o1_ 18 (some 109) (fun K hK => ?_)
          refine gs_ Try.func89 #[.agg #[.int .i64 x.f0, .int .i64 x.f1, .int .i64 x.f2], .agg #[.int .i64 y.f0, .int .i64 y.f1, .int .i64 y.f2]] ?_
          refine (spec_l09Add.calls x.f0 x.f1 x.f2 y.f0 y.f1 y.f2 _ _ _ _ rfl).mono ?_
          rintro e wA15 ⟨rfl, hb⟩
          refine ⟨_, rfl, ?_⟩
          replace HS := A0_ (Sp.far HS.out hb)
          clear hb
          refine hK.out _ _ (⟨Sp.slCellV HS.out (i := 3) rfl k0 HK0.out HQK.out, fun j hj => poolCubes HS.out (i := 4) rfl HQM.out j hj⟩) (fun hHeld => ?_)
          clear hK K
          refine nm_ (some 109) ?_
          refine ol_ 20 none (fun K hK => ?_)
          refine skip_ (w1 := wA15.setCells gc 0 (#[.int .i64 (wrap64 (x.f0 + y.f0)), .int .i64 (wrap64 (x.f1 + y.f1)), .int .i64 (wrap64 (x.f2 + y.f2))] : Array Value).toList) (by rfl) rfl (exec_store (v := .pointer (some ⟨gc, 0, none⟩)) (u := (.agg #[.int .i64 (wrap64 (x.f0 + y.f0)), .int .i64 (wrap64 (x.f1 + y.f1)), .int .i64 (wrap64 (x.f2 + y.f2))])) rfl (by first | rfl | (go_simp; done) | (go_simp; rfl)) (by first | rfl | (go_simp; done) | (go_simp; rfl)) (Sp.blkStore HS.out (i := 0) rfl ((.agg #[.int .i64 (wrap64 (x.f0 + y.f0)), .int .i64 (wrap64 (x.f1 + y.f1)), .int .i64 (wrap64 (x.f2 + y.f2))])) (#[.int .i64 (wrap64 (x.f0 + y.f0)), .int .i64 (wrap64 (x.f1 + y.f1)), .int .i64 (wrap64 (x.f2 + y.f2))]) rfl rfl (by kernel_rfl) (by first | (simp; done) | (simp [Value.oneCell']; done) | (simp; exact ⟨rfl, rfl, rfl⟩)))) ?_
          obtain ⟨wS16, hw_⟩ : ∃ w_, w_ = wA15.setCells gc 0 (#[.int .i64 (wrap64 (x.f0 + y.f0)), .int .i64 (wrap64 (x.f1 + y.f1)), .int .i64 (wrap64 (x.f2 + y.f2))] : Array Value).toList := ⟨_, rfl⟩
          rw [← hw_]
          have HS_ := A0_ (Sp.blkAll HS.out (i := 0) rfl (#[.int .i64 (wrap64 (x.f0 + y.f0)), .int .i64 (wrap64 (x.f1 + y.f1)), .int .i64 (wrap64 (x.f2 + y.f2))]) rfl)
          rw [← hw_] at HS_
          clear HS
          have HS := HS_
          clear HS_ hw_
          refine hK.out _ _ ?_
          clear hK K
          refine dn_ ?_
          replace HS := A0_ (Sp.arr (pre := [Res.blk gc #[.int .i64 (wrap64 (x.f0 + y.f0)), .int .i64 (wrap64 (x.f1 + y.f1)), .int .i64 (wrap64 (x.f2 + y.f2))] 94, Res.row kC 94 w0.heap.size (.slice (some adt) stepsL.length cA12) stepsL, srcR w0 gs code pA14 sA14, Res.row kSl 35 w0.heap.size (.slice (some ad) PS.length c) (QS.map Prod.fst), Res.poolG kC 94 w0.heap.size L, Res.blk gr #[.slice none 0 0] 26]) (pre' := [Res.blk gc #[.int .i64 (wrap64 (x.f0 + y.f0)), .int .i64 (wrap64 (x.f1 + y.f1)), .int .i64 (wrap64 (x.f2 + y.f2))] 94, srcR w0 gs code pA14 sA14, Res.row kSl 35 w0.heap.size (.slice (some ad) PS.length c) (QS.map Prod.fst), Res.poolG kC 94 w0.heap.size L, Res.blk gr #[.slice none 0 0] 26, Res.row kC 94 w0.heap.size (.slice (some adt) stepsL.length cA12) stepsL]) (rest := rest) [0, 2, 3, 4, 5, 1] HS.out rfl rfl)
          replace HS := A0_ ((show Sp w0 ([Res.blk gc #[.int .i64 (wrap64 (x.f0 + y.f0)), .int .i64 (wrap64 (x.f1 + y.f1)), .int .i64 (wrap64 (x.f2 + y.f2))] 94, srcR w0 gs code pA14 sA14, Res.row kSl 35 w0.heap.size (.slice (some ad) PS.length c) (QS.map Prod.fst), Res.poolG kC 94 w0.heap.size L, Res.blk gr #[.slice none 0 0] 26] ++ rest) _ from Sp.out (HS.out) 5))
          go_wp2
          go_meet
          case rel => exact ⟨gc, ⟨wrap64 (x.f0 + y.f0), wrap64 (x.f1 + y.f1), wrap64 (x.f2 + y.f2)⟩, _, _, rfl, HSR, HS⟩
        ·refine event_step (v := .pointer (some ⟨wA11.heap.size, 0, none⟩)) (w1 := wA11.alloc (.cells #[.int .i64 0, .int .i64 0, .int .i64 0] 94)) (by rfl) (by first | (go_simp; done) | (go_simp; rfl)) ?_
         obtain ⟨gc, hg_⟩ : ∃ g_, g_ = (wA11).heap.size := ⟨_, rfl⟩
         obtain ⟨wB12, hw_⟩ : ∃ w_, w_ = World.alloc wA11 (.cells #[.int .i64 0, .int .i64 0, .int .i64 0] 94) := ⟨_, rfl⟩
         rw [← hw_, ← hg_]
         have HS_ := A0_ (Sp.box HS.out #[.int .i64 0, .int .i64 0, .int .i64 0] 94)
         rw [← hw_, ← hg_] at HS_
         clear HS
         have HS := HS_
         clear HS_ hw_ hg_
         refine hK.out _ _ (⟨Sp.slCellV HS.out (i := 2) rfl k0 HK0.out HQK.out, fun j hj => poolCubes HS.out (i := 3) rfl HQM.out j hj⟩) (fun hHeld => ?_)
         clear hK K
         refine nm_ (some 10) ?_
         refine o1_ 13 (some 104) (fun K hK => ?_)
         refine gs_ Try.func95 #[] ?_
         refine (spec_l09Steps.calls _ _ rfl).mono ?_
         rintro e wA13 ⟨vA13, rfl, ho, hb⟩
         refine ⟨_, rfl, ?_⟩
         replace HS := A0_ (Sp.made' HS.out hb ho)
         clear hb ho
         obtain ⟨AA13, cA13, e_⟩ := Sp.slice HS.out (i := 0) rfl
         subst e_
         have hsl := (Sp.reads HS.out (i := 0) rfl).1
         obtain ⟨adt, et_⟩ := Sp.some_ HS.out (i := 0) rfl (by decide)
         subst et_
         clear hsl
         refine hK.out _ _ (⟨Sp.slCellV HS.out (i := 3) rfl k0 HK0.out HQK.out, fun j hj => poolCubes HS.out (i := 4) rfl HQM.out j hj⟩) (fun hHeld => ?_)
         clear hK K
         refine nm_ (some 104) ?_
         refine o1_ 15 (some 106) (fun K hK => ?_)
         refine gs_ Try.func57 #[.pointer (some ⟨gs, 0, none⟩), .int .i64 (6 : Int)] ?_
         refine (next_nat HOK.out HSR.out (6) (by decide) (i := 2) rfl _ HS.out).mono ?_
         rintro e wA14 ⟨j2, pA14, sA14, rfl, hr_, hS1, hs_⟩
         refine ⟨_, rfl, ?_⟩
         clear HSR
         have HSR := A0_ hS1
         have HB_j2 := A0_ hr_
         replace HS := A0_ (hs_)
         clear hs_ hS1 hr_
         have z0 : (0 ≤ (j2 : Int)) = True := eq_true (by omega)
         have z1 : ((j2 : Int) < 6) = True := eq_true (by have := HB_j2.out; omega)
         have z2 : (j2 < 6) = True := eq_true HB_j2.out
         refine hK.out _ _ (⟨Sp.slCellV HS.out (i := 3) rfl k0 HK0.out HQK.out, fun j hj => poolCubes HS.out (i := 4) rfl HQM.out j hj⟩) (fun hHeld => ?_)
         clear hK K
         refine nm_ (some 106) ?_
         refine on_ 16 (some 107) ?_
         refine o1_ 17 (some 108) (fun K hK => ?_)
         obtain ⟨hx0, hx1, hx2⟩ := Sp.cubeCell HS.out (i := 0) rfl j2 HB_j2.out
         obtain ⟨y, hx⟩ : ∃ x, cAt stepsL j2 = x := ⟨_, rfl⟩
         rw [hx] at hx0 hx1 hx2
         refine event_step (v := .agg #[.int .i64 y.f0, .int .i64 y.f1, .int .i64 y.f2]) (w1 := wA14) (by rfl) (by first | (go_simp; done) | (go_simp; rfl)) ?_
         clear hx hx0 hx1 hx2
         refine hK.out _ _ (⟨Sp.slCellV HS.out (i := 3) rfl k0 HK0.out HQK.out, fun j hj => poolCubes HS.out (i := 4) rfl HQM.out j hj⟩) (fun hHeld => ?_)
         clear hK K
         refine nm_ (some 108) ?_
         refine o1_ 18 (some 109) (fun K hK => ?_)
         refine gs_ Try.func89 #[.agg #[.int .i64 x.f0, .int .i64 x.f1, .int .i64 x.f2], .agg #[.int .i64 y.f0, .int .i64 y.f1, .int .i64 y.f2]] ?_
         refine (spec_l09Add.calls x.f0 x.f1 x.f2 y.f0 y.f1 y.f2 _ _ _ _ rfl).mono ?_
         rintro e wA15 ⟨rfl, hb⟩
         refine ⟨_, rfl, ?_⟩
         replace HS := A0_ (Sp.far HS.out hb)
         clear hb
         refine hK.out _ _ (⟨Sp.slCellV HS.out (i := 3) rfl k0 HK0.out HQK.out, fun j hj => poolCubes HS.out (i := 4) rfl HQM.out j hj⟩) (fun hHeld => ?_)
         clear hK K
         refine nm_ (some 109) ?_
         refine ol_ 20 none (fun K hK => ?_)
         refine skip_ (w1 := wA15.setCells gc 0 (#[.int .i64 (wrap64 (x.f0 + y.f0)), .int .i64 (wrap64 (x.f1 + y.f1)), .int .i64 (wrap64 (x.f2 + y.f2))] : Array Value).toList) (by rfl) rfl (exec_store (v := .pointer (some ⟨gc, 0, none⟩)) (u := (.agg #[.int .i64 (wrap64 (x.f0 + y.f0)), .int .i64 (wrap64 (x.f1 + y.f1)), .int .i64 (wrap64 (x.f2 + y.f2))])) rfl (by first | rfl | (go_simp; done) | (go_simp; rfl)) (by first | rfl | (go_simp; done) | (go_simp; rfl)) (Sp.blkStore HS.out (i := 1) rfl ((.agg #[.int .i64 (wrap64 (x.f0 + y.f0)), .int .i64 (wrap64 (x.f1 + y.f1)), .int .i64 (wrap64 (x.f2 + y.f2))])) (#[.int .i64 (wrap64 (x.f0 + y.f0)), .int .i64 (wrap64 (x.f1 + y.f1)), .int .i64 (wrap64 (x.f2 + y.f2))]) rfl rfl (by kernel_rfl) (by first | (simp; done) | (simp [Value.oneCell']; done) | (simp; exact ⟨rfl, rfl, rfl⟩)))) ?_
         obtain ⟨wS16, hw_⟩ : ∃ w_, w_ = wA15.setCells gc 0 (#[.int .i64 (wrap64 (x.f0 + y.f0)), .int .i64 (wrap64 (x.f1 + y.f1)), .int .i64 (wrap64 (x.f2 + y.f2))] : Array Value).toList := ⟨_, rfl⟩
         rw [← hw_]
         have HS_ := A0_ (Sp.blkAll HS.out (i := 1) rfl (#[.int .i64 (wrap64 (x.f0 + y.f0)), .int .i64 (wrap64 (x.f1 + y.f1)), .int .i64 (wrap64 (x.f2 + y.f2))]) rfl)
         rw [← hw_] at HS_
         clear HS
         have HS := HS_
         clear HS_ hw_
         refine hK.out _ _ ?_
         clear hK K
         refine dn_ ?_
         replace HS := A0_ (Sp.arr (pre := [Res.row kC 94 w0.heap.size (.slice (some adt) stepsL.length cA13) stepsL, Res.blk gc #[.int .i64 (wrap64 (x.f0 + y.f0)), .int .i64 (wrap64 (x.f1 + y.f1)), .int .i64 (wrap64 (x.f2 + y.f2))] 94, srcR w0 gs code pA14 sA14, Res.row kSl 35 w0.heap.size (.slice (some ad) PS.length c) (QS.map Prod.fst), Res.poolG kC 94 w0.heap.size L, Res.blk gr #[.slice none 0 0] 26]) (pre' := [Res.blk gc #[.int .i64 (wrap64 (x.f0 + y.f0)), .int .i64 (wrap64 (x.f1 + y.f1)), .int .i64 (wrap64 (x.f2 + y.f2))] 94, srcR w0 gs code pA14 sA14, Res.row kSl 35 w0.heap.size (.slice (some ad) PS.length c) (QS.map Prod.fst), Res.poolG kC 94 w0.heap.size L, Res.blk gr #[.slice none 0 0] 26, Res.row kC 94 w0.heap.size (.slice (some adt) stepsL.length cA13) stepsL]) (rest := rest) [1, 2, 3, 4, 5, 0] HS.out rfl rfl)
         replace HS := A0_ ((show Sp w0 ([Res.blk gc #[.int .i64 (wrap64 (x.f0 + y.f0)), .int .i64 (wrap64 (x.f1 + y.f1)), .int .i64 (wrap64 (x.f2 + y.f2))] 94, srcR w0 gs code pA14 sA14, Res.row kSl 35 w0.heap.size (.slice (some ad) PS.length c) (QS.map Prod.fst), Res.poolG kC 94 w0.heap.size L, Res.blk gr #[.slice none 0 0] 26] ++ rest) _ from Sp.out (HS.out) 5))
         go_wp2
         go_meet
         case rel => exact ⟨gc, ⟨wrap64 (x.f0 + y.f0), wrap64 (x.f1 + y.f1), wrap64 (x.f2 + y.f2)⟩, _, _, rfl, HSR, HS⟩
       ·refine event_step (v := .pointer (some ⟨wD23_.heap.size, 0, none⟩)) (w1 := wD23_.alloc (.cells #[.int .i64 0, .int .i64 0, .int .i64 0] 94)) (by rfl) (by first | (go_simp; done) | (go_simp; rfl)) ?_
        obtain ⟨gc, hg_⟩ : ∃ g_, g_ = (wD23_).heap.size := ⟨_, rfl⟩
        obtain ⟨wB11, hw_⟩ : ∃ w_, w_ = World.alloc wD23_ (.cells #[.int .i64 0, .int .i64 0, .int .i64 0] 94) := ⟨_, rfl⟩
        rw [← hw_, ← hg_]
        have HS_ := A0_ (Sp.box HS.out #[.int .i64 0, .int .i64 0, .int .i64 0] 94)
        rw [← hw_, ← hg_] at HS_
        clear HS
        have HS := HS_
        clear HS_ hw_ hg_
        refine hK.out _ _ (⟨Sp.slCellV HS.out (i := 2) rfl k0 HK0.out HQK.out, fun j hj => poolCubes HS.out (i := 3) rfl HQM.out j hj⟩) (fun hHeld => ?_)
        clear hK K
        refine nm_ (some 10) ?_
        refine o1_ 10 (some 101) (fun K hK => ?_)
        refine gs_ Try.func57 #[.pointer (some ⟨gs, 0, none⟩), .int .i64 (oq.length : Int)] ?_
        refine (next_nat HOK.out HSR.out (oq.length) (HQ2.out.1) (i := 1) rfl _ HS.out).mono ?_
        rintro e wA12 ⟨j1, pA12, sA12, rfl, hr_, hS1, hs_⟩
        refine ⟨_, rfl, ?_⟩
        clear HSR
        have HSR := A0_ hS1
        have HB_j1 := A0_ hr_
        replace HS := A0_ (hs_)
        clear hs_ hS1 hr_
        have y0 : (0 ≤ (j1 : Int)) = True := eq_true (by omega)
        have y1 : ((j1 : Int) < (oq.length : Int)) = True := eq_true (by have := HB_j1.out; omega)
        have y2 : (j1 < oq.length) = True := eq_true HB_j1.out
        obtain ⟨x, hx_⟩ : ∃ x, cAt oq j1 = x := ⟨_, rfl⟩
        have HX1 := A0_ hx_
        clear hx_
        refine hK.out _ _ (⟨Sp.slCellV HS.out (i := 2) rfl k0 HK0.out HQK.out, fun j hj => poolCubes HS.out (i := 3) rfl HQM.out j hj⟩) (fun hHeld => ?_)
        clear hK K
        refine nm_ (some 101) ?_
        refine on_ 11 (some 102) ?_
        refine take_ (i := 12) (N := (some 103)) (v := ?_) (a' := ?_) #[true, true, true, true, true, true, true, true, true, true, true, true, true, false, true, false, false, false, false, true, false] rfl rfl (take_ofW HT_.out HW_.out (by kernel_rfl)) (fun _ _ _ h => h) (Or.inl ⟨by rfl, ?_⟩) hHeld ?_ ?_
        rotate_left
        ·rintro w' ⟨s0, s1⟩
         obtain ⟨hx0, hx1, hx2⟩ := s1 j1 HB_j1.out
         rw [HX1.out] at hx0 hx1 hx2
         clear s1
         go_simp
         with_reducible rfl
        rotate_left
        ·simp only [Act.put, List.setIfInBounds_toArray, List.set_cons_zero, List.set_cons_succ, i64_w, i32_w]
         rfl
        refine o1_ 13 (some 104) (fun K hK => ?_)
        refine gs_ Try.func95 #[] ?_
        refine (spec_l09Steps.calls _ _ rfl).mono ?_
        rintro e wA13 ⟨vA13, rfl, ho, hb⟩
        refine ⟨_, rfl, ?_⟩
        replace HS := A0_ (Sp.made' HS.out hb ho)
        clear hb ho
        obtain ⟨AA13, cA13, e_⟩ := Sp.slice HS.out (i := 0) rfl
        subst e_
        have hsl := (Sp.reads HS.out (i := 0) rfl).1
        obtain ⟨adt, et_⟩ := Sp.some_ HS.out (i := 0) rfl (by decide)
        subst et_
        clear hsl
        refine hK.out _ _ (⟨Sp.slCellV HS.out (i := 3) rfl k0 HK0.out HQK.out, fun j hj => poolCubes HS.out (i := 4) rfl HQM.out j hj⟩) (fun hHeld => ?_)
        clear hK K
        refine nm_ (some 104) ?_
        refine o1_ 15 (some 106) (fun K hK => ?_)
        refine gs_ Try.func57 #[.pointer (some ⟨gs, 0, none⟩), .int .i64 (6 : Int)] ?_
        refine (next_nat HOK.out HSR.out (6) (by decide) (i := 2) rfl _ HS.out).mono ?_
        rintro e wA14 ⟨j2, pA14, sA14, rfl, hr_, hS1, hs_⟩
        refine ⟨_, rfl, ?_⟩
        clear HSR
        have HSR := A0_ hS1
        have HB_j2 := A0_ hr_
        replace HS := A0_ (hs_)
        clear hs_ hS1 hr_
        have z0 : (0 ≤ (j2 : Int)) = True := eq_true (by omega)
        have z1 : ((j2 : Int) < 6) = True := eq_true (by have := HB_j2.out; omega)
        have z2 : (j2 < 6) = True := eq_true HB_j2.out
        refine hK.out _ _ (⟨Sp.slCellV HS.out (i := 3) rfl k0 HK0.out HQK.out, fun j hj => poolCubes HS.out (i := 4) rfl HQM.out j hj⟩) (fun hHeld => ?_)
        clear hK K
        refine nm_ (some 106) ?_
        refine on_ 16 (some 107) ?_
        refine o1_ 17 (some 108) (fun K hK => ?_)
        obtain ⟨hx0, hx1, hx2⟩ := Sp.cubeCell HS.out (i := 0) rfl j2 HB_j2.out
        obtain ⟨y, hx⟩ : ∃ x, cAt stepsL j2 = x := ⟨_, rfl⟩
        rw [hx] at hx0 hx1 hx2
        refine event_step (v := .agg #[.int .i64 y.f0, .int .i64 y.f1, .int .i64 y.f2]) (w1 := wA14) (by rfl) (by first | (go_simp; done) | (go_simp; rfl)) ?_
        clear hx hx0 hx1 hx2
        refine hK.out _ _ (⟨Sp.slCellV HS.out (i := 3) rfl k0 HK0.out HQK.out, fun j hj => poolCubes HS.out (i := 4) rfl HQM.out j hj⟩) (fun hHeld => ?_)
        clear hK K
        refine nm_ (some 108) ?_
        refine o1_ 18 (some 109) (fun K hK => ?_)
        refine gs_ Try.func89 #[.agg #[.int .i64 x.f0, .int .i64 x.f1, .int .i64 x.f2], .agg #[.int .i64 y.f0, .int .i64 y.f1, .int .i64 y.f2]] ?_
        refine (spec_l09Add.calls x.f0 x.f1 x.f2 y.f0 y.f1 y.f2 _ _ _ _ rfl).mono ?_
        rintro e wA15 ⟨rfl, hb⟩
        refine ⟨_, rfl, ?_⟩
        replace HS := A0_ (Sp.far HS.out hb)
        clear hb
        refine hK.out _ _ (⟨Sp.slCellV HS.out (i := 3) rfl k0 HK0.out HQK.out, fun j hj => poolCubes HS.out (i := 4) rfl HQM.out j hj⟩) (fun hHeld => ?_)
        clear hK K
        refine nm_ (some 109) ?_
        refine ol_ 20 none (fun K hK => ?_)
        refine skip_ (w1 := wA15.setCells gc 0 (#[.int .i64 (wrap64 (x.f0 + y.f0)), .int .i64 (wrap64 (x.f1 + y.f1)), .int .i64 (wrap64 (x.f2 + y.f2))] : Array Value).toList) (by rfl) rfl (exec_store (v := .pointer (some ⟨gc, 0, none⟩)) (u := (.agg #[.int .i64 (wrap64 (x.f0 + y.f0)), .int .i64 (wrap64 (x.f1 + y.f1)), .int .i64 (wrap64 (x.f2 + y.f2))])) rfl (by first | rfl | (go_simp; done) | (go_simp; rfl)) (by first | rfl | (go_simp; done) | (go_simp; rfl)) (Sp.blkStore HS.out (i := 1) rfl ((.agg #[.int .i64 (wrap64 (x.f0 + y.f0)), .int .i64 (wrap64 (x.f1 + y.f1)), .int .i64 (wrap64 (x.f2 + y.f2))])) (#[.int .i64 (wrap64 (x.f0 + y.f0)), .int .i64 (wrap64 (x.f1 + y.f1)), .int .i64 (wrap64 (x.f2 + y.f2))]) rfl rfl (by kernel_rfl) (by first | (simp; done) | (simp [Value.oneCell']; done) | (simp; exact ⟨rfl, rfl, rfl⟩)))) ?_
        obtain ⟨wS16, hw_⟩ : ∃ w_, w_ = wA15.setCells gc 0 (#[.int .i64 (wrap64 (x.f0 + y.f0)), .int .i64 (wrap64 (x.f1 + y.f1)), .int .i64 (wrap64 (x.f2 + y.f2))] : Array Value).toList := ⟨_, rfl⟩
        rw [← hw_]
        have HS_ := A0_ (Sp.blkAll HS.out (i := 1) rfl (#[.int .i64 (wrap64 (x.f0 + y.f0)), .int .i64 (wrap64 (x.f1 + y.f1)), .int .i64 (wrap64 (x.f2 + y.f2))]) rfl)
        rw [← hw_] at HS_
        clear HS
        have HS := HS_
        clear HS_ hw_
        refine hK.out _ _ ?_
        clear hK K
        refine dn_ ?_
        replace HS := A0_ (Sp.arr (pre := [Res.row kC 94 w0.heap.size (.slice (some adt) stepsL.length cA13) stepsL, Res.blk gc #[.int .i64 (wrap64 (x.f0 + y.f0)), .int .i64 (wrap64 (x.f1 + y.f1)), .int .i64 (wrap64 (x.f2 + y.f2))] 94, srcR w0 gs code pA14 sA14, Res.row kSl 35 w0.heap.size (.slice (some ad) PS.length c) (QS.map Prod.fst), Res.poolG kC 94 w0.heap.size L, Res.blk gr #[.slice none 0 0] 26]) (pre' := [Res.blk gc #[.int .i64 (wrap64 (x.f0 + y.f0)), .int .i64 (wrap64 (x.f1 + y.f1)), .int .i64 (wrap64 (x.f2 + y.f2))] 94, srcR w0 gs code pA14 sA14, Res.row kSl 35 w0.heap.size (.slice (some ad) PS.length c) (QS.map Prod.fst), Res.poolG kC 94 w0.heap.size L, Res.blk gr #[.slice none 0 0] 26, Res.row kC 94 w0.heap.size (.slice (some adt) stepsL.length cA13) stepsL]) (rest := rest) [1, 2, 3, 4, 5, 0] HS.out rfl rfl)
        replace HS := A0_ ((show Sp w0 ([Res.blk gc #[.int .i64 (wrap64 (x.f0 + y.f0)), .int .i64 (wrap64 (x.f1 + y.f1)), .int .i64 (wrap64 (x.f2 + y.f2))] 94, srcR w0 gs code pA14 sA14, Res.row kSl 35 w0.heap.size (.slice (some ad) PS.length c) (QS.map Prod.fst), Res.poolG kC 94 w0.heap.size L, Res.blk gr #[.slice none 0 0] 26] ++ rest) _ from Sp.out (HS.out) 5))
        go_wp2
        go_meet
        case rel => exact ⟨gc, ⟨wrap64 (x.f0 + y.f0), wrap64 (x.f1 + y.f1), wrap64 (x.f2 + y.f2)⟩, _, _, rfl, HSR, HS⟩
      case rest =>
       clear HS HSR
       obtain ⟨gc, x, p6, s6, rfl, HSR, HS⟩ := hcut
       go_upto_region 24 with (fail)
       go_cut [128] from 110 to 127 (fun v128 w' => ∃ (b : Bool), v128 = .bool b ∧ Aside0 (Sp w0 ([Res.blk gc #[.int .i64 x.f0, .int .i64 x.f1, .int .i64 x.f2] 94, srcR w0 gs code p6 s6, Res.row kSl 35 w0.heap.size (.slice (some ad) PS.length c) (QS.map Prod.fst), Res.poolG kC 94 w0.heap.size L, Res.blk gr #[.slice none 0 0] 26] ++ rest) w'))
       case first =>
        have HQL := A0_ HY.out.2.1
        have HQS := A0_ HY.out.2.2.1
        have HQ1 := A0_ HY.out.2.2.2.1
        have hc0 := (cl_ HS 0 0 rfl).trans rfl; have hc1 := (cl_ HS 0 1 rfl).trans rfl; have hc2 := (cl_ HS 0 2 rfl).trans rfl
        go_wp2_with (first
         | (go_at_call 94; go_loud (obtain ⟨b, hb_⟩ := used_ev (QS.map Prod.snd) x (by rw [List.length_map, HQL.out]; have := HPN.out; omega) (fun q hq => by obtain ⟨z, hz, rfl⟩ := List.mem_map.1 hq; have := HQ1.out z hz; omega); obtain ⟨KU, hK_⟩ := hb_.rounds; have hk_ := Sp.kPos HS.out (i := 2) (j := 3) rfl rfl HQS.out; have hu_ := spec_l27Used.calls KU (some ad) c (QS.map Prod.snd) x.f0 x.f1 x.f2 b wc (by rw [List.length_map]; exact hk_) (by rw [List.length_map, HQL.out]; exact (Sp.reads HS.out (i := 2) rfl).2.1) hK_; rw [List.length_map, HQL.out] at hu_; refine hu_.mono ?_; rintro e wu_ ⟨rfl, hbl_⟩; replace HS := A0_ (Sp.far HS.out hbl_); clear hu_ hb_ hbl_ hk_ hK_ hc0 hc1 hc2; have hc0 := (cl_ HS 0 0 rfl).trans rfl; have hc1 := (cl_ HS 0 1 rfl).trans rfl; have hc2 := (cl_ HS 0 2 rfl).trans rfl)))
        all_goals
         go_meet
         case rel => exact ⟨_, rfl, HS⟩
       case rest =>
        clear HS
        obtain ⟨b, rfl, HS⟩ := hcut
        cases b with
        | false =>
         go_wp2
         replace HS := A0_ ((show Sp w0 ([srcR w0 gs code p6 s6, Res.row kSl 35 w0.heap.size (.slice (some ad) PS.length c) (QS.map Prod.fst), Res.poolG kC 94 w0.heap.size L, Res.blk gr #[.slice none 0 0] 26] ++ rest) _ from Sp.out (HS.out) 0))
         go_roundg k1
         case measure => omega
         case rel =>
          rw [wrap_pred n HCN.out (by have := HY.out.1; have := HQ2.out; omega)]
          exact ⟨n - 1, QS, L, _, _, rfl, ⟨by have := HY.out.1; have := HCN.out; omega, HY.out.2.1, HY.out.2.2.1, fun q hq => by have := HY.out.2.2.2.1 q hq; omega, HSR.out⟩, HS⟩
        | true =>
         go_wp2
         replace HS := A0_ (Sp.drew HS.out)
         refine start_ (n := 14) (S := fun w' => w'.cell? (ad.add k0) = some (.slice (some adq) oq.length cq) ∧ w'.cell? ⟨gc, 0, none⟩ = some (.int .i64 x.f0) ∧ w'.cell? ⟨gc, 1, none⟩ = some (.int .i64 x.f1) ∧ w'.cell? ⟨gc, 2, none⟩ = some (.int .i64 x.f2)) (ds := [13]) #[false, false, false, false, false, false, false, false, false, false, false, false, false, false] (by kernel_rfl) rfl rfl (⟨Sp.slCellV HS.out (i := 2) rfl k0 HK0.out HQK.out, (cl_ HS 0 0 rfl).trans rfl, (cl_ HS 0 1 rfl).trans rfl, (cl_ HS 0 2 rfl).trans rfl⟩) (fun hHeld => ?_)
         refine with_tabW drwF.tab25 drwF.bits25 (fun HT_ HW_ => ?_)
         generalize wc.drew = wD25_ at HS hHeld ⊢
         refine on_ 0 (some 129) ?_
         refine on_ 1 (some 130) ?_
         refine on_ 3 (some 132) ?_
         refine on_ 4 (some 133) ?_
         refine on_ 5 (some 134) ?_
         refine tk_ 6 (some 135) ?_
         refine tk_ 8 (some 137) ?_
         refine o2_ 2 9 (some 131) (some 138) (fun K hK => ?_) (fun K hK => ?_)
         ·refine Kd.R_lit_step kC _ 94 ?hg (N := 131) ?hd (xs := ([] : List Cb)) (inner := []) (ok := fun _ => True) (okp := fun _ => True) ?hr ?hp (fun _ hk => hk) trivial (Below.refl _ _) (Nat.le_refl _) (by simp) ?_
          (case hd => rfl)
          (case hg => rfl)
          (case hr => first | (go_simp; done) | (go_simp; rfl))
          (case hp => exact (Reps.none _ _))
          intro vA11 wA11 ho hb hg_ hnew_
          clear hg_ hnew_
          replace HS := A0_ (Sp.made' HS.out hb ho)
          clear hb ho
          obtain ⟨AA11, cA11, eA_⟩ := Sp.slice HS.out (i := 0) rfl
          subst eA_
          refine hK.out _ _ (⟨Sp.slCellV HS.out (i := 3) rfl k0 HK0.out HQK.out, (cl_ HS 1 0 rfl).trans rfl, (cl_ HS 1 1 rfl).trans rfl, (cl_ HS 1 2 rfl).trans rfl⟩) (fun hHeld => ?_)
          clear hK K
          refine nm_ (some 131) ?_
          refine o2_ 7 9 (some 136) (some 138) (fun K hK => ?_) (fun K hK => ?_)
          ·obtain ⟨fp_, ho_, hf_, hc_⟩ := Sp.row HS.out (i := 0) rfl
           refine Kd.R_append_rows_step kC w0.heap.size (by rfl) (.tmp 131) (.tmp 135) 35 94 (.agg #[(.int .i64 0), (.int .i64 0), (.int .i64 0)]) 24 rfl Try.underlying35 info94 rfl (by decide) (by omega) _ ([] : List Cb) oq _ _ _ _ (fun _ => False) rfl rfl ho_ ((Sp.poolGC HS.out (i := 4) rfl HQM.out).2.2) (fun _ _ h => h) (fun _ h => h.elim) (fun _ h => .inr h) HS.out.below HS.out.below.size ?aL ?_
           (case aL => have := HQ2.out; simp only [List.length_append, List.length_cons, List.length_nil]; omega)
           intro vA12 wA12 ho hb hg hat
           replace HS := A0_ (hc_ _ _ _ ho hg)
           clear ho hb hg hat ho_ hf_ hc_ fp_
           obtain ⟨AA12, cA12, eA_⟩ := Sp.slice HS.out (i := 0) rfl
           subst eA_
           refine hK.out _ _ (⟨Sp.slCellV HS.out (i := 3) rfl k0 HK0.out HQK.out, (cl_ HS 1 0 rfl).trans rfl, (cl_ HS 1 1 rfl).trans rfl, (cl_ HS 1 2 rfl).trans rfl⟩) (fun hHeld => ?_)
           clear hK K
           refine nm_ (some 136) ?_
           refine o1_ 9 (some 138) (fun K hK => ?_)
           refine Kd.R_lit_step kC _ 94 ?hg (N := 138) ?hd (xs := ([x] : List Cb)) (inner := [.int .i64 x.f0, .int .i64 x.f1, .int .i64 x.f2]) (ok := fun _ => True) (okp := fun _ => True) ?hr ?hp (fun _ hk => hk) trivial (Below.refl _ _) (Nat.le_refl _) (by simp) ?_
           (case hd => rfl)
           (case hg => rfl)
           (case hr => first | (go_simp; done) | (go_simp; rfl))
           (case hp => exact (Reps.c3 (reps1C _ _ _ x) (Reps.none _ _)))
           intro vA13 wA13 ho hb hg_ hnew_
           clear hg_ hnew_
           replace HS := A0_ (Sp.made' HS.out hb ho)
           clear hb ho
           obtain ⟨AA13, cA13, eA_⟩ := Sp.slice HS.out (i := 0) rfl
           subst eA_
           refine hK.out _ _ (⟨Sp.slCellV HS.out (i := 4) rfl k0 HK0.out HQK.out, (cl_ HS 2 0 rfl).trans rfl, (cl_ HS 2 1 rfl).trans rfl, (cl_ HS 2 2 rfl).trans rfl⟩) (fun hHeld => ?_)
           clear hK K
           refine nm_ (some 138) ?_
           refine o1_ 10 (some 139) (fun K hK => ?_)
           obtain ⟨fp_, ho_, hf_, hc_⟩ := Sp.row HS.out (i := 1) rfl
           refine Kd.R_append_rows_step kC w0.heap.size (by rfl) (.tmp 136) (.tmp 138) 35 94 (.agg #[(.int .i64 0), (.int .i64 0), (.int .i64 0)]) 24 rfl Try.underlying35 info94 rfl (by decide) (by omega) _ (([] : List Cb) ++ oq) ([x] : List Cb) _ _ _ _ (fun _ => False) rfl rfl ho_ ((Sp.reads HS.out (i := 0) rfl).2.2) (fun _ _ h => h) (fun _ h => h.elim) (fun _ h => .inr h) HS.out.below HS.out.below.size ?aL ?_
           (case aL => have := HQ2.out; simp only [List.length_append, List.length_cons, List.length_nil]; omega)
           intro vA14 wA14 ho hb hg hat
           replace HS := A0_ (hc_ _ _ _ ho hg)
           clear ho hb hg hat ho_ hf_ hc_ fp_
           obtain ⟨AA14, cA14, eA_⟩ := Sp.slice HS.out (i := 1) rfl
           subst eA_
           refine hK.out _ _ (⟨Sp.slCellV HS.out (i := 4) rfl k0 HK0.out HQK.out, (cl_ HS 2 0 rfl).trans rfl, (cl_ HS 2 1 rfl).trans rfl, (cl_ HS 2 2 rfl).trans rfl⟩) (fun hHeld => ?_)
           clear hK K
           refine nm_ (some 139) ?_
           refine o1_ 11 (some 140) (fun K hK => ?_)
           refine gs_ Try.func96 #[.slice AA14 (((([] : List Cb) ++ oq) ++ ([x] : List Cb))).length cA14] ?_
           refine (sort_calls AA14 cA14 ((([] : List Cb) ++ oq) ++ ([x] : List Cb)) _ (Sp.reads HS.out (i := 1) rfl).2.2 (Sp.reads HS.out (i := 1) rfl).2.1 (by have := HQ2.out; simp only [List.length_append, List.length_cons, List.length_nil]; omega)).mono ?_
           rintro e wA15 ⟨vA15, ys, rfl, hyl, ho, hb⟩
           refine ⟨_, rfl, ?_⟩
           have HYL := A0_ (show ys.length = oq.length + 1 by rw [hyl]; simp only [List.length_append, List.length_cons, List.length_nil]; omega)
           replace HS := A0_ (Sp.made' HS.out hb ho)
           clear hb ho hyl
           obtain ⟨AA15, cA15, e_⟩ := Sp.slice HS.out (i := 0) rfl
           subst e_
           refine hK.out _ _ (⟨Sp.slCellV HS.out (i := 5) rfl k0 HK0.out HQK.out, (cl_ HS 3 0 rfl).trans rfl, (cl_ HS 3 1 rfl).trans rfl, (cl_ HS 3 2 rfl).trans rfl⟩) (fun hHeld => ?_)
           clear hK K
           refine nm_ (some 140) ?_
           refine on_ 12 (some 141) ?_
           refine ol_ 13 none (fun K hK => ?_)
           obtain ⟨wT16, hr_, hs_⟩ := Sp.slStore HS.out (i := 5) rfl k0 HK0.out (AA15, ys.length, cA15)
           refine skip_ (w1 := wT16) (by rfl) rfl (exec_store (v := .pointer (some (ad.add k0))) (u := .slice AA15 ys.length cA15) rfl (by first | rfl | (go_simp; done) | (go_simp; rfl)) (by first | rfl | (go_simp; done) | (go_simp; rfl)) (by first | exact hr_ | simpa using hr_)) ?_
           clear hr_ HS
           have HS := A0_ hs_
           clear hs_
           refine hK.out _ _ ?_
           clear hK K
           refine dn_ ?_
           replace HS := A0_ (Sp.arr (pre := [Res.row kC 94 w0.heap.size (.slice AA15 ys.length cA15) ys, Res.row kC 94 w0.heap.size (.slice AA13 (([x] : List Cb)).length cA13) ([x] : List Cb), Res.row kC 94 w0.heap.size (.slice AA14 (((([] : List Cb) ++ oq) ++ ([x] : List Cb))).length cA14) ((([] : List Cb) ++ oq) ++ ([x] : List Cb)), Res.blk gc #[.int .i64 x.f0, .int .i64 x.f1, .int .i64 x.f2] 94, srcR w0 gs code p6 s6, Res.row kSl 35 w0.heap.size (.slice (some ad) PS.length c) ((QS.map Prod.fst).set k0 (AA15, ys.length, cA15)), Res.poolG kC 94 w0.heap.size L, Res.blk gr #[.slice none 0 0] 26]) (pre' := [Res.row kC 94 w0.heap.size (.slice AA15 ys.length cA15) ys, Res.poolG kC 94 w0.heap.size L, srcR w0 gs code p6 s6, Res.row kSl 35 w0.heap.size (.slice (some ad) PS.length c) ((QS.map Prod.fst).set k0 (AA15, ys.length, cA15)), Res.blk gr #[.slice none 0 0] 26, Res.row kC 94 w0.heap.size (.slice AA13 (([x] : List Cb)).length cA13) ([x] : List Cb), Res.row kC 94 w0.heap.size (.slice AA14 (((([] : List Cb) ++ oq) ++ ([x] : List Cb))).length cA14) ((([] : List Cb) ++ oq) ++ ([x] : List Cb)), Res.blk gc #[.int .i64 x.f0, .int .i64 x.f1, .int .i64 x.f2] 94]) (rest := rest) [0, 6, 4, 5, 7, 1, 2, 3] HS.out rfl rfl)
           replace HS := A0_ (Sp.poolGAdd HS.out)
           replace HS := A0_ (Sp.arr (pre := [Res.poolG kC 94 w0.heap.size (L ++ [((AA15, ys.length, cA15), ys)]), srcR w0 gs code p6 s6, Res.row kSl 35 w0.heap.size (.slice (some ad) PS.length c) ((QS.map Prod.fst).set k0 (AA15, ys.length, cA15)), Res.blk gr #[.slice none 0 0] 26, Res.row kC 94 w0.heap.size (.slice AA13 (([x] : List Cb)).length cA13) ([x] : List Cb), Res.row kC 94 w0.heap.size (.slice AA14 (((([] : List Cb) ++ oq) ++ ([x] : List Cb))).length cA14) ((([] : List Cb) ++ oq) ++ ([x] : List Cb)), Res.blk gc #[.int .i64 x.f0, .int .i64 x.f1, .int .i64 x.f2] 94]) (pre' := [srcR w0 gs code p6 s6, Res.row kSl 35 w0.heap.size (.slice (some ad) PS.length c) ((QS.map Prod.fst).set k0 (AA15, ys.length, cA15)), Res.poolG kC 94 w0.heap.size (L ++ [((AA15, ys.length, cA15), ys)]), Res.blk gr #[.slice none 0 0] 26, Res.row kC 94 w0.heap.size (.slice AA13 (([x] : List Cb)).length cA13) ([x] : List Cb), Res.row kC 94 w0.heap.size (.slice AA14 (((([] : List Cb) ++ oq) ++ ([x] : List Cb))).length cA14) ((([] : List Cb) ++ oq) ++ ([x] : List Cb)), Res.blk gc #[.int .i64 x.f0, .int .i64 x.f1, .int .i64 x.f2] 94]) (rest := rest) [1, 2, 0, 3, 4, 5, 6] HS.out rfl rfl)
           replace HS := A0_ ((show Sp w0 ([srcR w0 gs code p6 s6, Res.row kSl 35 w0.heap.size (.slice (some ad) PS.length c) ((QS.map Prod.fst).set k0 (AA15, ys.length, cA15)), Res.poolG kC 94 w0.heap.size (L ++ [((AA15, ys.length, cA15), ys)]), Res.blk gr #[.slice none 0 0] 26] ++ rest) _ from Sp.out (Sp.out (Sp.out (HS.out) 6) 5) 4))
           go_wp2
           go_roundg k1
           case measure => omega
           case rel =>
            rw [wrap_pred n HCN.out (by have := HY.out.1; have := HQ2.out; omega)]
            refine ⟨n - 1, QS.set k0 ((AA15, ys.length, cA15), ys), L ++ [((AA15, ys.length, cA15), ys)], _, _, rfl, ⟨by have := HY.out.1; have := HCN.out; omega, by rw [List.length_set]; exact HY.out.2.1, fun q hq => ?_, fun q hq => ?_, HSR.out⟩, ⟨by rw [map_fst_set]; exact HS.out⟩⟩
            ·rcases List.mem_or_eq_of_mem_set hq with h | rfl
             ·exact List.mem_append_left _ (HY.out.2.2.1 q h)
             ·exact List.mem_append_right _ List.mem_cons_self
            ·rcases List.mem_or_eq_of_mem_set hq with h | rfl
             ·have := HY.out.2.2.2.1 q h; omega
             ·have := HYL.out; have := HQ2.out; have := HCN.out; show 1 ≤ ys.length ∧ ys.length + (n - 1) ≤ 15; omega
          ·refine Kd.R_lit_step kC _ 94 ?hg (N := 138) ?hd (xs := ([x] : List Cb)) (inner := [.int .i64 x.f0, .int .i64 x.f1, .int .i64 x.f2]) (ok := fun _ => True) (okp := fun _ => True) ?hr ?hp (fun _ hk => hk) trivial (Below.refl _ _) (Nat.le_refl _) (by simp) ?_
           (case hd => rfl)
           (case hg => rfl)
           (case hr => first | (go_simp; done) | (go_simp; rfl))
           (case hp => exact (Reps.c3 (reps1C _ _ _ x) (Reps.none _ _)))
           intro vA12 wA12 ho hb hg_ hnew_
           clear hg_ hnew_
           replace HS := A0_ (Sp.made' HS.out hb ho)
           clear hb ho
           obtain ⟨AA12, cA12, eA_⟩ := Sp.slice HS.out (i := 0) rfl
           subst eA_
           refine hK.out _ _ (⟨Sp.slCellV HS.out (i := 4) rfl k0 HK0.out HQK.out, (cl_ HS 2 0 rfl).trans rfl, (cl_ HS 2 1 rfl).trans rfl, (cl_ HS 2 2 rfl).trans rfl⟩) (fun hHeld => ?_)
           clear hK K
           refine nm_ (some 138) ?_
           refine o1_ 7 (some 136) (fun K hK => ?_)
           obtain ⟨fp_, ho_, hf_, hc_⟩ := Sp.row HS.out (i := 1) rfl
           refine Kd.R_append_rows_step kC w0.heap.size (by rfl) (.tmp 131) (.tmp 135) 35 94 (.agg #[(.int .i64 0), (.int .i64 0), (.int .i64 0)]) 24 rfl Try.underlying35 info94 rfl (by decide) (by omega) _ ([] : List Cb) oq _ _ _ _ (fun _ => False) rfl rfl ho_ ((Sp.poolGC HS.out (i := 5) rfl HQM.out).2.2) (fun _ _ h => h) (fun _ h => h.elim) (fun _ h => .inr h) HS.out.below HS.out.below.size ?aL ?_
           (case aL => have := HQ2.out; simp only [List.length_append, List.length_cons, List.length_nil]; omega)
           intro vA13 wA13 ho hb hg hat
           replace HS := A0_ (hc_ _ _ _ ho hg)
           clear ho hb hg hat ho_ hf_ hc_ fp_
           obtain ⟨AA13, cA13, eA_⟩ := Sp.slice HS.out (i := 1) rfl
           subst eA_
           refine hK.out _ _ (⟨Sp.slCellV HS.out (i := 4) rfl k0 HK0.out HQK.out, (cl_ HS 2 0 rfl).trans rfl, (cl_ HS 2 1 rfl).trans rfl, (cl_ HS 2 2 rfl).trans rfl⟩) (fun hHeld => ?_)
           clear hK K
           refine nm_ (some 136) ?_
           refine o1_ 10 (some 139) (fun K hK => ?_)
           obtain ⟨fp_, ho_, hf_, hc_⟩ := Sp.row HS.out (i := 1) rfl
           refine Kd.R_append_rows_step kC w0.heap.size (by rfl) (.tmp 136) (.tmp 138) 35 94 (.agg #[(.int .i64 0), (.int .i64 0), (.int .i64 0)]) 24 rfl Try.underlying35 info94 rfl (by decide) (by omega) _ (([] : List Cb) ++ oq) ([x] : List Cb) _ _ _ _ (fun _ => False) rfl rfl ho_ ((Sp.reads HS.out (i := 0) rfl).2.2) (fun _ _ h => h) (fun _ h => h.elim) (fun _ h => .inr h) HS.out.below HS.out.below.size ?aL ?_
           (case aL => have := HQ2.out; simp only [List.length_append, List.length_cons, List.length_nil]; omega)
           intro vA14 wA14 ho hb hg hat
           replace HS := A0_ (hc_ _ _ _ ho hg)
           clear ho hb hg hat ho_ hf_ hc_ fp_
           obtain ⟨AA14, cA14, eA_⟩ := Sp.slice HS.out (i := 1) rfl
           subst eA_
           refine hK.out _ _ (⟨Sp.slCellV HS.out (i := 4) rfl k0 HK0.out HQK.out, (cl_ HS 2 0 rfl).trans rfl, (cl_ HS 2 1 rfl).trans rfl, (cl_ HS 2 2 rfl).trans rfl⟩) (fun hHeld => ?_)
           clear hK K
           refine nm_ (some 139) ?_
           refine o1_ 11 (some 140) (fun K hK => ?_)
           refine gs_ Try.func96 #[.slice AA14 (((([] : List Cb) ++ oq) ++ ([x] : List Cb))).length cA14] ?_
           refine (sort_calls AA14 cA14 ((([] : List Cb) ++ oq) ++ ([x] : List Cb)) _ (Sp.reads HS.out (i := 1) rfl).2.2 (Sp.reads HS.out (i := 1) rfl).2.1 (by have := HQ2.out; simp only [List.length_append, List.length_cons, List.length_nil]; omega)).mono ?_
           rintro e wA15 ⟨vA15, ys, rfl, hyl, ho, hb⟩
           refine ⟨_, rfl, ?_⟩
           have HYL := A0_ (show ys.length = oq.length + 1 by rw [hyl]; simp only [List.length_append, List.length_cons, List.length_nil]; omega)
           replace HS := A0_ (Sp.made' HS.out hb ho)
           clear hb ho hyl
           obtain ⟨AA15, cA15, e_⟩ := Sp.slice HS.out (i := 0) rfl
           subst e_
           refine hK.out _ _ (⟨Sp.slCellV HS.out (i := 5) rfl k0 HK0.out HQK.out, (cl_ HS 3 0 rfl).trans rfl, (cl_ HS 3 1 rfl).trans rfl, (cl_ HS 3 2 rfl).trans rfl⟩) (fun hHeld => ?_)
           clear hK K
           refine nm_ (some 140) ?_
           refine on_ 12 (some 141) ?_
           refine ol_ 13 none (fun K hK => ?_)
           obtain ⟨wT16, hr_, hs_⟩ := Sp.slStore HS.out (i := 5) rfl k0 HK0.out (AA15, ys.length, cA15)
           refine skip_ (w1 := wT16) (by rfl) rfl (exec_store (v := .pointer (some (ad.add k0))) (u := .slice AA15 ys.length cA15) rfl (by first | rfl | (go_simp; done) | (go_simp; rfl)) (by first | rfl | (go_simp; done) | (go_simp; rfl)) (by first | exact hr_ | simpa using hr_)) ?_
           clear hr_ HS
           have HS := A0_ hs_
           clear hs_
           refine hK.out _ _ ?_
           clear hK K
           refine dn_ ?_
           replace HS := A0_ (Sp.arr (pre := [Res.row kC 94 w0.heap.size (.slice AA15 ys.length cA15) ys, Res.row kC 94 w0.heap.size (.slice AA12 (([x] : List Cb)).length cA12) ([x] : List Cb), Res.row kC 94 w0.heap.size (.slice AA14 (((([] : List Cb) ++ oq) ++ ([x] : List Cb))).length cA14) ((([] : List Cb) ++ oq) ++ ([x] : List Cb)), Res.blk gc #[.int .i64 x.f0, .int .i64 x.f1, .int .i64 x.f2] 94, srcR w0 gs code p6 s6, Res.row kSl 35 w0.heap.size (.slice (some ad) PS.length c) ((QS.map Prod.fst).set k0 (AA15, ys.length, cA15)), Res.poolG kC 94 w0.heap.size L, Res.blk gr #[.slice none 0 0] 26]) (pre' := [Res.row kC 94 w0.heap.size (.slice AA15 ys.length cA15) ys, Res.poolG kC 94 w0.heap.size L, srcR w0 gs code p6 s6, Res.row kSl 35 w0.heap.size (.slice (some ad) PS.length c) ((QS.map Prod.fst).set k0 (AA15, ys.length, cA15)), Res.blk gr #[.slice none 0 0] 26, Res.row kC 94 w0.heap.size (.slice AA12 (([x] : List Cb)).length cA12) ([x] : List Cb), Res.row kC 94 w0.heap.size (.slice AA14 (((([] : List Cb) ++ oq) ++ ([x] : List Cb))).length cA14) ((([] : List Cb) ++ oq) ++ ([x] : List Cb)), Res.blk gc #[.int .i64 x.f0, .int .i64 x.f1, .int .i64 x.f2] 94]) (rest := rest) [0, 6, 4, 5, 7, 1, 2, 3] HS.out rfl rfl)
           replace HS := A0_ (Sp.poolGAdd HS.out)
           replace HS := A0_ (Sp.arr (pre := [Res.poolG kC 94 w0.heap.size (L ++ [((AA15, ys.length, cA15), ys)]), srcR w0 gs code p6 s6, Res.row kSl 35 w0.heap.size (.slice (some ad) PS.length c) ((QS.map Prod.fst).set k0 (AA15, ys.length, cA15)), Res.blk gr #[.slice none 0 0] 26, Res.row kC 94 w0.heap.size (.slice AA12 (([x] : List Cb)).length cA12) ([x] : List Cb), Res.row kC 94 w0.heap.size (.slice AA14 (((([] : List Cb) ++ oq) ++ ([x] : List Cb))).length cA14) ((([] : List Cb) ++ oq) ++ ([x] : List Cb)), Res.blk gc #[.int .i64 x.f0, .int .i64 x.f1, .int .i64 x.f2] 94]) (pre' := [srcR w0 gs code p6 s6, Res.row kSl 35 w0.heap.size (.slice (some ad) PS.length c) ((QS.map Prod.fst).set k0 (AA15, ys.length, cA15)), Res.poolG kC 94 w0.heap.size (L ++ [((AA15, ys.length, cA15), ys)]), Res.blk gr #[.slice none 0 0] 26, Res.row kC 94 w0.heap.size (.slice AA12 (([x] : List Cb)).length cA12) ([x] : List Cb), Res.row kC 94 w0.heap.size (.slice AA14 (((([] : List Cb) ++ oq) ++ ([x] : List Cb))).length cA14) ((([] : List Cb) ++ oq) ++ ([x] : List Cb)), Res.blk gc #[.int .i64 x.f0, .int .i64 x.f1, .int .i64 x.f2] 94]) (rest := rest) [1, 2, 0, 3, 4, 5, 6] HS.out rfl rfl)
           replace HS := A0_ ((show Sp w0 ([srcR w0 gs code p6 s6, Res.row kSl 35 w0.heap.size (.slice (some ad) PS.length c) ((QS.map Prod.fst).set k0 (AA15, ys.length, cA15)), Res.poolG kC 94 w0.heap.size (L ++ [((AA15, ys.length, cA15), ys)]), Res.blk gr #[.slice none 0 0] 26] ++ rest) _ from Sp.out (Sp.out (Sp.out (HS.out) 6) 5) 4))
           go_wp2
           go_roundg k1
           case measure => omega
           case rel =>
            rw [wrap_pred n HCN.out (by have := HY.out.1; have := HQ2.out; omega)]
            refine ⟨n - 1, QS.set k0 ((AA15, ys.length, cA15), ys), L ++ [((AA15, ys.length, cA15), ys)], _, _, rfl, ⟨by have := HY.out.1; have := HCN.out; omega, by rw [List.length_set]; exact HY.out.2.1, fun q hq => ?_, fun q hq => ?_, HSR.out⟩, ⟨by rw [map_fst_set]; exact HS.out⟩⟩
            ·rcases List.mem_or_eq_of_mem_set hq with h | rfl
             ·exact List.mem_append_left _ (HY.out.2.2.1 q h)
             ·exact List.mem_append_right _ List.mem_cons_self
            ·rcases List.mem_or_eq_of_mem_set hq with h | rfl
             ·have := HY.out.2.2.2.1 q h; omega
             ·have := HYL.out; have := HQ2.out; have := HCN.out; show 1 ≤ ys.length ∧ ys.length + (n - 1) ≤ 15; omega
         ·refine Kd.R_lit_step kC _ 94 ?hg (N := 138) ?hd (xs := ([x] : List Cb)) (inner := [.int .i64 x.f0, .int .i64 x.f1, .int .i64 x.f2]) (ok := fun _ => True) (okp := fun _ => True) ?hr ?hp (fun _ hk => hk) trivial (Below.refl _ _) (Nat.le_refl _) (by simp) ?_
          (case hd => rfl)
          (case hg => rfl)
          (case hr => first | (go_simp; done) | (go_simp; rfl))
          (case hp => exact (Reps.c3 (reps1C _ _ _ x) (Reps.none _ _)))
          intro vA11 wA11 ho hb hg_ hnew_
          clear hg_ hnew_
          replace HS := A0_ (Sp.made' HS.out hb ho)
          clear hb ho
          obtain ⟨AA11, cA11, eA_⟩ := Sp.slice HS.out (i := 0) rfl
          subst eA_
          refine hK.out _ _ (⟨Sp.slCellV HS.out (i := 3) rfl k0 HK0.out HQK.out, (cl_ HS 1 0 rfl).trans rfl, (cl_ HS 1 1 rfl).trans rfl, (cl_ HS 1 2 rfl).trans rfl⟩) (fun hHeld => ?_)
          clear hK K
          refine nm_ (some 138) ?_
          refine o1_ 2 (some 131) (fun K hK => ?_)
          refine Kd.R_lit_step kC _ 94 ?hg (N := 131) ?hd (xs := ([] : List Cb)) (inner := []) (ok := fun _ => True) (okp := fun _ => True) ?hr ?hp (fun _ hk => hk) trivial (Below.refl _ _) (Nat.le_refl _) (by simp) ?_
          (case hd => rfl)
          (case hg => rfl)
          (case hr => first | (go_simp; done) | (go_simp; rfl))
          (case hp => exact (Reps.none _ _))
          intro vA12 wA12 ho hb hg_ hnew_
          clear hg_ hnew_
          replace HS := A0_ (Sp.made' HS.out hb ho)
          clear hb ho
          obtain ⟨AA12, cA12, eA_⟩ := Sp.slice HS.out (i := 0) rfl
          subst eA_
          refine hK.out _ _ (⟨Sp.slCellV HS.out (i := 4) rfl k0 HK0.out HQK.out, (cl_ HS 2 0 rfl).trans rfl, (cl_ HS 2 1 rfl).trans rfl, (cl_ HS 2 2 rfl).trans rfl⟩) (fun hHeld => ?_)
          clear hK K
          refine nm_ (some 131) ?_
          refine o1_ 7 (some 136) (fun K hK => ?_)
          obtain ⟨fp_, ho_, hf_, hc_⟩ := Sp.row HS.out (i := 0) rfl
          refine Kd.R_append_rows_step kC w0.heap.size (by rfl) (.tmp 131) (.tmp 135) 35 94 (.agg #[(.int .i64 0), (.int .i64 0), (.int .i64 0)]) 24 rfl Try.underlying35 info94 rfl (by decide) (by omega) _ ([] : List Cb) oq _ _ _ _ (fun _ => False) rfl rfl ho_ ((Sp.poolGC HS.out (i := 5) rfl HQM.out).2.2) (fun _ _ h => h) (fun _ h => h.elim) (fun _ h => .inr h) HS.out.below HS.out.below.size ?aL ?_
          (case aL => have := HQ2.out; simp only [List.length_append, List.length_cons, List.length_nil]; omega)
          intro vA13 wA13 ho hb hg hat
          replace HS := A0_ (hc_ _ _ _ ho hg)
          clear ho hb hg hat ho_ hf_ hc_ fp_
          obtain ⟨AA13, cA13, eA_⟩ := Sp.slice HS.out (i := 0) rfl
          subst eA_
          refine hK.out _ _ (⟨Sp.slCellV HS.out (i := 4) rfl k0 HK0.out HQK.out, (cl_ HS 2 0 rfl).trans rfl, (cl_ HS 2 1 rfl).trans rfl, (cl_ HS 2 2 rfl).trans rfl⟩) (fun hHeld => ?_)
          clear hK K
          refine nm_ (some 136) ?_
          refine o1_ 10 (some 139) (fun K hK => ?_)
          obtain ⟨fp_, ho_, hf_, hc_⟩ := Sp.row HS.out (i := 0) rfl
          refine Kd.R_append_rows_step kC w0.heap.size (by rfl) (.tmp 136) (.tmp 138) 35 94 (.agg #[(.int .i64 0), (.int .i64 0), (.int .i64 0)]) 24 rfl Try.underlying35 info94 rfl (by decide) (by omega) _ (([] : List Cb) ++ oq) ([x] : List Cb) _ _ _ _ (fun _ => False) rfl rfl ho_ ((Sp.reads HS.out (i := 1) rfl).2.2) (fun _ _ h => h) (fun _ h => h.elim) (fun _ h => .inr h) HS.out.below HS.out.below.size ?aL ?_
          (case aL => have := HQ2.out; simp only [List.length_append, List.length_cons, List.length_nil]; omega)
          intro vA14 wA14 ho hb hg hat
          replace HS := A0_ (hc_ _ _ _ ho hg)
          clear ho hb hg hat ho_ hf_ hc_ fp_
          obtain ⟨AA14, cA14, eA_⟩ := Sp.slice HS.out (i := 0) rfl
          subst eA_
          refine hK.out _ _ (⟨Sp.slCellV HS.out (i := 4) rfl k0 HK0.out HQK.out, (cl_ HS 2 0 rfl).trans rfl, (cl_ HS 2 1 rfl).trans rfl, (cl_ HS 2 2 rfl).trans rfl⟩) (fun hHeld => ?_)
          clear hK K
          refine nm_ (some 139) ?_
          refine o1_ 11 (some 140) (fun K hK => ?_)
          refine gs_ Try.func96 #[.slice AA14 (((([] : List Cb) ++ oq) ++ ([x] : List Cb))).length cA14] ?_
          refine (sort_calls AA14 cA14 ((([] : List Cb) ++ oq) ++ ([x] : List Cb)) _ (Sp.reads HS.out (i := 0) rfl).2.2 (Sp.reads HS.out (i := 0) rfl).2.1 (by have := HQ2.out; simp only [List.length_append, List.length_cons, List.length_nil]; omega)).mono ?_
          rintro e wA15 ⟨vA15, ys, rfl, hyl, ho, hb⟩
          refine ⟨_, rfl, ?_⟩
          have HYL := A0_ (show ys.length = oq.length + 1 by rw [hyl]; simp only [List.length_append, List.length_cons, List.length_nil]; omega)
          replace HS := A0_ (Sp.made' HS.out hb ho)
          clear hb ho hyl
          obtain ⟨AA15, cA15, e_⟩ := Sp.slice HS.out (i := 0) rfl
          subst e_
          refine hK.out _ _ (⟨Sp.slCellV HS.out (i := 5) rfl k0 HK0.out HQK.out, (cl_ HS 3 0 rfl).trans rfl, (cl_ HS 3 1 rfl).trans rfl, (cl_ HS 3 2 rfl).trans rfl⟩) (fun hHeld => ?_)
          clear hK K
          refine nm_ (some 140) ?_
          refine on_ 12 (some 141) ?_
          refine ol_ 13 none (fun K hK => ?_)
          obtain ⟨wT16, hr_, hs_⟩ := Sp.slStore HS.out (i := 5) rfl k0 HK0.out (AA15, ys.length, cA15)
          refine skip_ (w1 := wT16) (by rfl) rfl (exec_store (v := .pointer (some (ad.add k0))) (u := .slice AA15 ys.length cA15) rfl (by first | rfl | (go_simp; done) | (go_simp; rfl)) (by first | rfl | (go_simp; done) | (go_simp; rfl)) (by first | exact hr_ | simpa using hr_)) ?_
          clear hr_ HS
          have HS := A0_ hs_
          clear hs_
          refine hK.out _ _ ?_
          clear hK K
          refine dn_ ?_
          replace HS := A0_ (Sp.arr (pre := [Res.row kC 94 w0.heap.size (.slice AA15 ys.length cA15) ys, Res.row kC 94 w0.heap.size (.slice AA14 (((([] : List Cb) ++ oq) ++ ([x] : List Cb))).length cA14) ((([] : List Cb) ++ oq) ++ ([x] : List Cb)), Res.row kC 94 w0.heap.size (.slice AA11 (([x] : List Cb)).length cA11) ([x] : List Cb), Res.blk gc #[.int .i64 x.f0, .int .i64 x.f1, .int .i64 x.f2] 94, srcR w0 gs code p6 s6, Res.row kSl 35 w0.heap.size (.slice (some ad) PS.length c) ((QS.map Prod.fst).set k0 (AA15, ys.length, cA15)), Res.poolG kC 94 w0.heap.size L, Res.blk gr #[.slice none 0 0] 26]) (pre' := [Res.row kC 94 w0.heap.size (.slice AA15 ys.length cA15) ys, Res.poolG kC 94 w0.heap.size L, srcR w0 gs code p6 s6, Res.row kSl 35 w0.heap.size (.slice (some ad) PS.length c) ((QS.map Prod.fst).set k0 (AA15, ys.length, cA15)), Res.blk gr #[.slice none 0 0] 26, Res.row kC 94 w0.heap.size (.slice AA14 (((([] : List Cb) ++ oq) ++ ([x] : List Cb))).length cA14) ((([] : List Cb) ++ oq) ++ ([x] : List Cb)), Res.row kC 94 w0.heap.size (.slice AA11 (([x] : List Cb)).length cA11) ([x] : List Cb), Res.blk gc #[.int .i64 x.f0, .int .i64 x.f1, .int .i64 x.f2] 94]) (rest := rest) [0, 6, 4, 5, 7, 1, 2, 3] HS.out rfl rfl)
          replace HS := A0_ (Sp.poolGAdd HS.out)
          replace HS := A0_ (Sp.arr (pre := [Res.poolG kC 94 w0.heap.size (L ++ [((AA15, ys.length, cA15), ys)]), srcR w0 gs code p6 s6, Res.row kSl 35 w0.heap.size (.slice (some ad) PS.length c) ((QS.map Prod.fst).set k0 (AA15, ys.length, cA15)), Res.blk gr #[.slice none 0 0] 26, Res.row kC 94 w0.heap.size (.slice AA14 (((([] : List Cb) ++ oq) ++ ([x] : List Cb))).length cA14) ((([] : List Cb) ++ oq) ++ ([x] : List Cb)), Res.row kC 94 w0.heap.size (.slice AA11 (([x] : List Cb)).length cA11) ([x] : List Cb), Res.blk gc #[.int .i64 x.f0, .int .i64 x.f1, .int .i64 x.f2] 94]) (pre' := [srcR w0 gs code p6 s6, Res.row kSl 35 w0.heap.size (.slice (some ad) PS.length c) ((QS.map Prod.fst).set k0 (AA15, ys.length, cA15)), Res.poolG kC 94 w0.heap.size (L ++ [((AA15, ys.length, cA15), ys)]), Res.blk gr #[.slice none 0 0] 26, Res.row kC 94 w0.heap.size (.slice AA14 (((([] : List Cb) ++ oq) ++ ([x] : List Cb))).length cA14) ((([] : List Cb) ++ oq) ++ ([x] : List Cb)), Res.row kC 94 w0.heap.size (.slice AA11 (([x] : List Cb)).length cA11) ([x] : List Cb), Res.blk gc #[.int .i64 x.f0, .int .i64 x.f1, .int .i64 x.f2] 94]) (rest := rest) [1, 2, 0, 3, 4, 5, 6] HS.out rfl rfl)
          replace HS := A0_ ((show Sp w0 ([srcR w0 gs code p6 s6, Res.row kSl 35 w0.heap.size (.slice (some ad) PS.length c) ((QS.map Prod.fst).set k0 (AA15, ys.length, cA15)), Res.poolG kC 94 w0.heap.size (L ++ [((AA15, ys.length, cA15), ys)]), Res.blk gr #[.slice none 0 0] 26] ++ rest) _ from Sp.out (Sp.out (Sp.out (HS.out) 6) 4) 4))
          go_wp2
          go_roundg k1
          case measure => omega
          case rel =>
           rw [wrap_pred n HCN.out (by have := HY.out.1; have := HQ2.out; omega)]
           refine ⟨n - 1, QS.set k0 ((AA15, ys.length, cA15), ys), L ++ [((AA15, ys.length, cA15), ys)], _, _, rfl, ⟨by have := HY.out.1; have := HCN.out; omega, by rw [List.length_set]; exact HY.out.2.1, fun q hq => ?_, fun q hq => ?_, HSR.out⟩, ⟨by rw [map_fst_set]; exact HS.out⟩⟩
           ·rcases List.mem_or_eq_of_mem_set hq with h | rfl
            ·exact List.mem_append_left _ (HY.out.2.2.1 q h)
            ·exact List.mem_append_right _ List.mem_cons_self
           ·rcases List.mem_or_eq_of_mem_set hq with h | rfl
            ·have := HY.out.2.2.2.1 q h; omega
            ·have := HYL.out; have := HQ2.out; have := HCN.out; show 1 ≤ ys.length ∧ ys.length + (n - 1) ≤ 15; omega
     ·have q0 : decide (0 < n) = false := decide_eq_false cn
      have q1 : ((n : Int) > 0) = False := eq_false (by omega)
      have q2 : ((0 : Int) < (n : Int)) = False := eq_false (by omega)
      have q3 : (0 < n) = False := eq_false cn
      have HQL := A0_ HY.out.2.1
      have HQS := A0_ HY.out.2.2.1
      have HQ1 := A0_ HY.out.2.2.2.1
      have h0p : (0 < PS.length) = True := eq_true (by have := HPN.out; omega)
      have h1p : (1 ≤ PS.length) = True := eq_true HPN.out.1
      have hcap := (Sp.reads HS.out (i := 1) rfl).2.1
      have h1c : (1 ≤ c) = True := eq_true (by have := HPN.out; omega)
      have HCAP := A0_ hcap
      clear cn hcap
      go_upto_region 27 with (first
       | (go_at_call 57; go_loud (refine (next_at HOK.out HSR.out 30 (i := 0) rfl _ HS.out).mono ?_; rintro e w7 ⟨r9, p9, s9, rfl, hr_, hS1, hs_⟩; clear HSR; have HSR := A0_ hS1; replace HS := A0_ (hs_); clear hs_ hS1; clear hr_)))
      have HS_ : Aside0 (Sp w0 ([srcR w0 gs code p9 s9, Res.row kSl 35 w0.heap.size (.slice A PS.length c) (QS.map Prod.fst), Res.poolG kC 94 w0.heap.size L, Res.blk gr #[.slice none 0 0] 26] ++ rest) _) := HS; clear HS; have HS := HS_; clear HS_
      have HCAP2 := A0_ (show QS.length ≤ c by have := HCAP.out; have := HQL.out; omega)
      rcases five r9 with h1_ | h1_ | h1_ | h1_ | ⟨z0, z1, z2, z3, z4, z5, z6, z7⟩
      ·subst h1_
       obtain ⟨ad, e_⟩ := Sp.some_ HS.out (i := 1) rfl (by have := HPN.out; omega)
       subst e_
       obtain ⟨⟨⟨Aq, nq, cq⟩, oq⟩, hq_⟩ : ∃ q, q = QS.getD 0 default := ⟨_, rfl⟩
       have hkq : 0 < QS.length := by have := HQL.out; have := HPN.out; omega
       have hqm : ((Aq, nq, cq), oq) ∈ QS := by rw [hq_, List.getD_eq_getElem?_getD, List.getElem?_eq_getElem hkq]; exact List.getElem_mem hkq
       have HQK := A0_ (show (QS.map Prod.fst).getD 0 (none, 0, 0) = (Aq, nq, cq) by rw [List.getD_eq_getElem?_getD, List.getElem?_map, List.getElem?_eq_getElem hkq]; rw [List.getD_eq_getElem?_getD, List.getElem?_eq_getElem hkq] at hq_; simp only [Option.map_some, Option.getD_some] at hq_ ⊢; rw [← hq_])
       have HQN := A0_ hqm
       have HQM := A0_ (HQS.out _ hqm)
       have HQ2 := A0_ (show 1 ≤ oq.length ∧ oq.length ≤ 15 by have h_ : 1 ≤ oq.length ∧ oq.length + n ≤ 15 := HQ1.out _ hqm; omega)
       have hnq := (Sp.poolGC HS.out (i := 2) rfl HQM.out).1
       replace hnq : nq = oq.length := hnq
       subst hnq
       have h0q : (0 < PS.length) = True := eq_true (by have := HPN.out; omega)
       have h0r : ((0 : Int) < (PS.length : Int)) = True := eq_true (by have := HPN.out; omega)
       have HKQ := A0_ (show 0 < PS.length by have := HPN.out; omega)
       have HCC := A0_ (show PS.length ≤ c by have := HCAP.out; omega)
       clear hkq hqm hq_
       have hx : w7.cell? ad = some (.slice Aq oq.length cq) := (show _ from Sp.slCell0V HS.out (i := 1) rfl HKQ.out HQK.out)
       go_wp2_with (first
        | ((with_reducible refine gate_dst (N := 150) rfl ?_); refine Kd.R_lit kSl _ 35 ?hg (N := 150) ?hd (xs := ([(Aq, oq.length, cq)] : List Sl)) (inner := [.slice Aq oq.length cq]) (ok := fun _ => True) (okp := fun _ => True) ?hr ?hp (fun _ hk => hk) trivial (Below.refl _ _) (Nat.le_refl _) (by simp) ?_; (case hd => rfl); (case hg => rfl); (case hr => first | (go_simp; done) | (go_simp; rfl)); (case hp => exact (Reps.one rfl (Reps.none _ _))); intro vl_ wl_ ho_ hb_ hg_ hn_; clear hg_ hn_; replace HS := A0_ (Sp.made' HS.out hb_ ho_); clear ho_ hb_; obtain ⟨Aone, cone, ev_⟩ := Sp.slice HS.out (i := 0) rfl; subst ev_; clear hx)
        | ((with_reducible refine gate_builtin (b := .append) (xs := #[.tmp 146, .tmp 150]) rfl ?_); at_builtin; obtain ⟨fp_, ho_, hf_, hc_⟩ := Sp.row HS.out (i := 2) rfl; refine Kd.R_append_rows kSl (w0 := w0) w0.heap.size rfl (.tmp 146) (.tmp 150) 24 35 ((.slice none 0 0)) 24 rfl Try.underlying24 info35 rfl (by decide) (by omega) (.slice (some ad) PS.length c) ((QS.map Prod.fst)) (([(Aq, oq.length, cq)] : List Sl)) _ _ _ _ (fun _ => False) rfl rfl ho_ ((Sp.reads HS.out (i := 0) rfl).2.2) (fun _ _ h => h) (fun _ h => h.elim) (fun _ h => Or.inr h) HS.out.below HS.out.below.size ?aL ?_; (case aL => (have := HPN.out; have := HQL.out; simp only [List.length_cons, List.length_nil, List.length_map]; omega)); intro va_ wa_ ho hb hg hat; replace HS := A0_ (hc_ _ _ _ ho hg); clear ho hb hg hat hc_ hf_ ho_ fp_; obtain ⟨AP1, cP1, ev_⟩ := Sp.slice HS.out (i := 2) rfl; subst ev_)
        | ((with_reducible refine gate_store (t := 26) (p := 2) rfl ?_); refine store_event rfl rfl rfl (exec_store (v := .pointer (some ⟨gr, 0, none⟩)) (u := (.agg #[.slice AP1 (QS.map Prod.fst ++ ([(Aq, oq.length, cq)] : List Sl)).length cP1])) rfl ?hp ?hx (Sp.blkStore HS.out (i := 4) rfl ((.agg #[.slice AP1 (QS.map Prod.fst ++ ([(Aq, oq.length, cq)] : List Sl)).length cP1])) (#[.slice AP1 (QS.map Prod.fst ++ ([(Aq, oq.length, cq)] : List Sl)).length cP1]) rfl rfl (by kernel_rfl) (by first | (simp; done) | (simp [Value.oneCell']; done) | (simp; exact ⟨rfl, rfl, rfl⟩)))) ?_; (case hp => first | rfl | (go_simp; done) | (go_simp; rfl)); (case hx => first | rfl | (go_simp; done) | (go_simp; rfl)); intro ws_ hw_; have HS_ := A0_ (Sp.blkAll HS.out (i := 4) rfl (#[.slice AP1 (QS.map Prod.fst ++ ([(Aq, oq.length, cq)] : List Sl)).length cP1]) rfl); rw [← hw_] at HS_; clear HS hw_; have HS := HS_; clear HS_))
       (try simp only [Exit.inBlock, Exit.then]); refine bodyPost_ret (results_cell_row rfl _ _ gr 26 #[.slice AP1 (QS.map Prod.fst ++ ([(Aq, oq.length, cq)] : List Sl)).length cP1] (0, 0) _ rfl (Sp.blk HS.out (i := 4) rfl).1 Try.underlying26 rfl (by kernel_rfl)) rfl ?_
       have hcap2 := (Sp.reads HS.out (i := 2) rfl).2.1
       have hl : (QS ++ [((Aq, oq.length, cq), oq)]).length = PS.length + 1 := by rw [List.length_append, HQL.out]; rfl
       have hl2 : (QS.map Prod.fst ++ ([(Aq, oq.length, cq)] : List Sl)).length = PS.length + 1 := by rw [List.length_append, List.length_map, HQL.out]; rfl
       replace HS := A0_ (Sp.arr (pre := [Res.row kSl 35 w0.heap.size (.slice Aone (([(Aq, oq.length, cq)] : List Sl)).length cone) ([(Aq, oq.length, cq)] : List Sl), srcR w0 gs code p9 s9, Res.row kSl 35 w0.heap.size (.slice AP1 (((QS.map Prod.fst) ++ ([(Aq, oq.length, cq)] : List Sl))).length cP1) ((QS.map Prod.fst) ++ ([(Aq, oq.length, cq)] : List Sl)), Res.poolG kC 94 w0.heap.size L, Res.blk gr #[.slice AP1 (QS.map Prod.fst ++ ([(Aq, oq.length, cq)] : List Sl)).length cP1] 26]) (pre' := [srcR w0 gs code p9 s9, Res.row kSl 35 w0.heap.size (.slice AP1 (((QS.map Prod.fst) ++ ([(Aq, oq.length, cq)] : List Sl))).length cP1) ((QS.map Prod.fst) ++ ([(Aq, oq.length, cq)] : List Sl)), Res.poolG kC 94 w0.heap.size L, Res.blk gr #[.slice AP1 (QS.map Prod.fst ++ ([(Aq, oq.length, cq)] : List Sl)).length cP1] 26, Res.row kSl 35 w0.heap.size (.slice Aone (([(Aq, oq.length, cq)] : List Sl)).length cone) ([(Aq, oq.length, cq)] : List Sl)]) (rest := rest) [1, 2, 3, 4, 0] HS.out rfl rfl)
       replace HS := A0_ ((show Sp w0 ([srcR w0 gs code p9 s9, Res.row kSl 35 w0.heap.size (.slice AP1 (((QS.map Prod.fst) ++ ([(Aq, oq.length, cq)] : List Sl))).length cP1) ((QS.map Prod.fst) ++ ([(Aq, oq.length, cq)] : List Sl)), Res.poolG kC 94 w0.heap.size L, Res.blk gr #[.slice AP1 (QS.map Prod.fst ++ ([(Aq, oq.length, cq)] : List Sl)).length cP1] 26] ++ rest) _ from Sp.out (HS.out) 4))
       exact ⟨AP1, cP1, QS ++ [((Aq, oq.length, cq), oq)], _, _, by rw [hl, hl2], HSR.out, ⟨by rw [hl]; have := HPN.out; omega, fun q hq => by
        rcases List.mem_append.1 hq with hq | hq
        ·have := HQ1.out q hq; omega
        ·obtain rfl := List.mem_singleton.1 hq
         have := HQ2.out; show oq.length ≤ 64; omega⟩, by rw [hl, ← hl2]; exact hcap2, Sp.drEnd HS.out (by rw [List.take_of_length_le (by rw [hl, hl2]; exact Nat.le_refl _), List.map_append]; rfl) (by rw [hl, hl2]; exact Nat.le_refl _) (fun q hq => by
        rcases List.mem_append.1 hq with hq | hq
        ·exact HQS.out q hq
        ·obtain rfl := List.mem_singleton.1 hq
         exact HQM.out)⟩
      ·subst h1_
       obtain ⟨ad, e_⟩ := Sp.some_ HS.out (i := 1) rfl (by have := HPN.out; omega)
       subst e_
       obtain ⟨⟨⟨Aq, nq, cq⟩, oq⟩, hq_⟩ : ∃ q, q = QS.getD 0 default := ⟨_, rfl⟩
       have hkq : 0 < QS.length := by have := HQL.out; have := HPN.out; omega
       have hqm : ((Aq, nq, cq), oq) ∈ QS := by rw [hq_, List.getD_eq_getElem?_getD, List.getElem?_eq_getElem hkq]; exact List.getElem_mem hkq
       have HQK := A0_ (show (QS.map Prod.fst).getD 0 (none, 0, 0) = (Aq, nq, cq) by rw [List.getD_eq_getElem?_getD, List.getElem?_map, List.getElem?_eq_getElem hkq]; rw [List.getD_eq_getElem?_getD, List.getElem?_eq_getElem hkq] at hq_; simp only [Option.map_some, Option.getD_some] at hq_ ⊢; rw [← hq_])
       have HQN := A0_ hqm
       have HQM := A0_ (HQS.out _ hqm)
       have HQ2 := A0_ (show 1 ≤ oq.length ∧ oq.length ≤ 15 by have h_ : 1 ≤ oq.length ∧ oq.length + n ≤ 15 := HQ1.out _ hqm; omega)
       have hnq := (Sp.poolGC HS.out (i := 2) rfl HQM.out).1
       replace hnq : nq = oq.length := hnq
       subst hnq
       have h0q : (0 < PS.length) = True := eq_true (by have := HPN.out; omega)
       have h0r : ((0 : Int) < (PS.length : Int)) = True := eq_true (by have := HPN.out; omega)
       have HKQ := A0_ (show 0 < PS.length by have := HPN.out; omega)
       have HCC := A0_ (show PS.length ≤ c by have := HCAP.out; omega)
       clear hkq hqm hq_
       go_wp2
       replace HS := A0_ (Sp.drew HS.out)
       refine start_ (n := 11) (S := fun w' => w'.cell? ad = some (.slice Aq oq.length cq)) (ds := [10]) #[false, false, false, false, false, false, false, false, false, false, false] (by kernel_rfl) rfl rfl (Sp.slCell0V HS.out (i := 1) rfl HKQ.out HQK.out) (fun hHeld => ?_)
       refine with_tabW drwF.tab30 drwF.bits30 (fun HT_ HW_ => ?_)
       generalize w7.drew = wD30_ at HS hHeld ⊢
       refine on_ 0 (some 154) ?_
       refine on_ 1 (some 155) ?_
       refine on_ 2 (some 156) ?_
       refine tk_ 3 (some 157) ?_
       refine on_ 4 (some 158) ?_
       refine o1_ 5 (some 159) (fun K hK => ?_)
       refine gs_ Try.func57 #[.pointer (some ⟨gs, 0, none⟩), .int .i64 4] ?_
       refine (next_at HOK.out HSR.out 4 (i := 0) rfl _ HS.out).mono ?_
       rintro e wA11 ⟨rm, pA11, sA11, rfl, hr_, hS1, hs_⟩
       refine ⟨_, rfl, ?_⟩
       clear HSR
       have HSR := A0_ hS1
       replace HS := A0_ (hs_)
       clear hs_ hS1 hr_
       obtain ⟨KM, hKM⟩ := (smove_ev oq ⟨wrap64 (5 + rm), 0, 0⟩ (by have := HQ2.out; omega)).rounds
       obtain ⟨m, hm⟩ : ∃ m, m = oq.map fun c => addC c (⟨wrap64 (5 + rm), 0, 0⟩ : Cb) := ⟨_, rfl⟩
       rw [← hm] at hKM
       have HKM := A0_ hKM
       have HNL := A0_ (show m.length = oq.length by rw [hm, List.length_map])
       have HNL2 := A0_ HQ2.out.2
       clear hm hKM
       refine hK.out _ _ (Sp.slCell0V HS.out (i := 1) rfl HKQ.out HQK.out) (fun hHeld => ?_)
       clear hK K
       refine nm_ (some 159) ?_
       refine on_ 6 (some 160) ?_
       refine on_ 7 (some 161) ?_
       refine o1_ 8 (some 162) (fun K hK => ?_)
       refine gs_ Try.func93 #[.slice Aq oq.length cq, .agg #[.int .i64 (wrap64 (5 + rm)), .int .i64 0, .int .i64 0]] ?_
       refine (spec_l09Move.calls KM Aq cq oq (wrap64 (5 + rm)) 0 0 m _ (Sp.poolGC HS.out (i := 2) rfl HQM.out).2.2 (Sp.poolGC HS.out (i := 2) rfl HQM.out).2.1 HKM.out).mono ?_
       rintro e wA12 ⟨vA12, rfl, ho, hb⟩
       refine ⟨_, rfl, ?_⟩
       replace HS := A0_ (Sp.made' HS.out hb ho)
       clear hb ho
       obtain ⟨AA12, cA12, e_⟩ := Sp.slice HS.out (i := 0) rfl
       subst e_
       refine hK.out _ _ (Sp.slCell0V HS.out (i := 2) rfl HKQ.out HQK.out) (fun hHeld => ?_)
       clear hK K
       refine nm_ (some 162) ?_
       refine on_ 9 (some 163) ?_
       refine ol_ 10 none (fun K hK => ?_)
       obtain ⟨wT13, hr_, hs_⟩ := Sp.slStore HS.out (i := 2) rfl 0 HKQ.out (AA12, m.length, cA12)
       refine skip_ (w1 := wT13) (by rfl) rfl (exec_store (v := .pointer (some ad)) (u := .slice AA12 m.length cA12) rfl (by first | rfl | (go_simp; done) | (go_simp; rfl)) (by first | rfl | (go_simp; done) | (go_simp; rfl)) (by first | exact hr_ | simpa using hr_)) ?_
       clear hr_ HS
       have HS := A0_ hs_
       clear hs_
       refine hK.out _ _ ?_
       clear hK K
       refine dn_ ?_
       go_wp2_with (first
        | ((with_reducible refine gate_store (t := 26) (p := 2) rfl ?_); refine store_event rfl rfl rfl (exec_store (v := .pointer (some ⟨gr, 0, none⟩)) (u := (.agg #[.slice (some ad) PS.length c])) rfl ?hp ?hx (Sp.blkStore HS.out (i := 4) rfl ((.agg #[.slice (some ad) PS.length c])) (#[.slice (some ad) PS.length c]) rfl rfl (by kernel_rfl) (by first | (simp; done) | (simp [Value.oneCell']; done) | (simp; exact ⟨rfl, rfl, rfl⟩)))) ?_; (case hp => first | rfl | (go_simp; done) | (go_simp; rfl)); (case hx => first | rfl | (go_simp; done) | (go_simp; rfl)); intro ws_ hw_; have HS_ := A0_ (Sp.blkAll HS.out (i := 4) rfl (#[.slice (some ad) PS.length c]) rfl); rw [← hw_] at HS_; clear HS hw_; have HS := HS_; clear HS_))
       (try simp only [Exit.inBlock, Exit.then]); refine bodyPost_ret (results_cell_row rfl _ _ gr 26 #[.slice (some ad) PS.length c] (0, 0) _ rfl (Sp.blk HS.out (i := 4) rfl).1 Try.underlying26 rfl (by kernel_rfl)) rfl ?_
       have := HNL2.out
       replace HS := A0_ (Sp.arr (pre := [Res.row kC 94 w0.heap.size (.slice AA12 m.length cA12) m, srcR w0 gs code pA11 sA11, Res.row kSl 35 w0.heap.size (.slice (some ad) PS.length c) ((QS.map Prod.fst).set 0 (AA12, m.length, cA12)), Res.poolG kC 94 w0.heap.size L, Res.blk gr #[.slice (some ad) PS.length c] 26]) (pre' := [Res.row kC 94 w0.heap.size (.slice AA12 m.length cA12) m, Res.poolG kC 94 w0.heap.size L, srcR w0 gs code pA11 sA11, Res.row kSl 35 w0.heap.size (.slice (some ad) PS.length c) ((QS.map Prod.fst).set 0 (AA12, m.length, cA12)), Res.blk gr #[.slice (some ad) PS.length c] 26]) (rest := rest) [0, 3, 1, 2, 4] HS.out rfl rfl)
       replace HS := A0_ (Sp.poolGAdd HS.out)
       replace HS := A0_ (Sp.arr (pre := [Res.poolG kC 94 w0.heap.size (L ++ [((AA12, m.length, cA12), m)]), srcR w0 gs code pA11 sA11, Res.row kSl 35 w0.heap.size (.slice (some ad) PS.length c) ((QS.map Prod.fst).set 0 (AA12, m.length, cA12)), Res.blk gr #[.slice (some ad) PS.length c] 26]) (pre' := [srcR w0 gs code pA11 sA11, Res.row kSl 35 w0.heap.size (.slice (some ad) PS.length c) ((QS.map Prod.fst).set 0 (AA12, m.length, cA12)), Res.poolG kC 94 w0.heap.size (L ++ [((AA12, m.length, cA12), m)]), Res.blk gr #[.slice (some ad) PS.length c] 26]) (rest := rest) [1, 2, 0, 3] HS.out rfl rfl)
       have hl : (QS.set 0 ((AA12, m.length, cA12), m)).length = PS.length := by rw [List.length_set, HQL.out]
       have hl2 : (QS.set 0 ((AA12, m.length, cA12), m)).map Prod.fst = ((QS.map Prod.fst).set 0 (AA12, m.length, cA12)) := map_fst_set _ _ _
       exact ⟨some ad, c, QS.set 0 ((AA12, m.length, cA12), m), by rw [hl], pA11, sA11, HSR.out, ⟨by rw [hl]; have := HPN.out; omega, fun q hq => by
        rcases List.mem_or_eq_of_mem_set hq with h | rfl
        ·have := HQ1.out q h; omega
        ·have := HNL.out; show m.length ≤ 64; omega⟩, by rw [hl]; exact HCC.out, Sp.drEnd HS.out (by rw [map_fst_set]; exact (List.take_of_length_le (by rw [List.length_set, List.length_set, List.length_map]; exact Nat.le_refl _)).symm) (by rw [List.length_set, List.length_set, List.length_map]; exact Nat.le_refl _) (fun q hq => by
        rcases List.mem_or_eq_of_mem_set hq with h | rfl
        ·exact List.mem_append_left _ (HQS.out q h)
        ·exact List.mem_append_right _ List.mem_cons_self)⟩
      ·subst h1_
       have h1c : (1 ≤ c) = True := eq_true (by have := HCAP.out; have := HPN.out; omega)
       have h1d : 1 ≤ c := (by have := HCAP.out; have := HPN.out; omega)
       go_wp2_with (first
        | ((with_reducible refine gate_store (t := 26) (p := 2) rfl ?_); refine store_event rfl rfl rfl (exec_store (v := .pointer (some ⟨gr, 0, none⟩)) (u := (.agg #[.slice A 1 c])) rfl ?hp ?hx (Sp.blkStore HS.out (i := 3) rfl ((.agg #[.slice A 1 c])) (#[.slice A 1 c]) rfl rfl (by kernel_rfl) (by first | (simp; done) | (simp [Value.oneCell']; done) | (simp; exact ⟨rfl, rfl, rfl⟩)))) ?_; (case hp => first | rfl | (go_simp; done) | (go_simp; rfl)); (case hx => first | rfl | (go_simp; done) | (go_simp; rfl)); intro ws_ hw_; have HS_ := A0_ (Sp.blkAll HS.out (i := 3) rfl (#[.slice A 1 c]) rfl); rw [← hw_] at HS_; clear HS hw_; have HS := HS_; clear HS_))
       (try simp only [Exit.inBlock, Exit.then]); refine bodyPost_ret (results_cell_row rfl _ _ gr 26 #[.slice A 1 c] (0, 0) _ rfl (Sp.blk HS.out (i := 3) rfl).1 Try.underlying26 rfl (by kernel_rfl)) rfl ?_
       have hl : (QS.take 1).length = 1 := by rw [List.length_take]; have := HPN.out; have := HQL.out; omega
       exact ⟨A, c, QS.take 1, _, _, by rw [hl], HSR.out, ⟨by rw [hl]; omega, fun q hq => by have := HQ1.out q (List.mem_of_mem_take hq); omega⟩, by rw [hl]; have := HCAP.out; have := HPN.out; omega, Sp.drEnd HS.out (by rw [List.map_take, hl]) (by rw [hl, List.length_map, HQL.out]; exact HPN.out.1) (fun q hq => HQS.out q (List.mem_of_mem_take hq))⟩
      ·subst h1_
       obtain ⟨ad, e_⟩ := Sp.some_ HS.out (i := 1) rfl (by have := HPN.out; omega)
       subst e_
       obtain ⟨⟨⟨Aq, nq, cq⟩, oq⟩, hq_⟩ : ∃ q, q = QS.getD 0 default := ⟨_, rfl⟩
       have hkq : 0 < QS.length := by have := HQL.out; have := HPN.out; omega
       have hqm : ((Aq, nq, cq), oq) ∈ QS := by rw [hq_, List.getD_eq_getElem?_getD, List.getElem?_eq_getElem hkq]; exact List.getElem_mem hkq
       have HQK := A0_ (show (QS.map Prod.fst).getD 0 (none, 0, 0) = (Aq, nq, cq) by rw [List.getD_eq_getElem?_getD, List.getElem?_map, List.getElem?_eq_getElem hkq]; rw [List.getD_eq_getElem?_getD, List.getElem?_eq_getElem hkq] at hq_; simp only [Option.map_some, Option.getD_some] at hq_ ⊢; rw [← hq_])
       have HQN := A0_ hqm
       have HQM := A0_ (HQS.out _ hqm)
       have HQ2 := A0_ (show 1 ≤ oq.length ∧ oq.length ≤ 15 by have h_ : 1 ≤ oq.length ∧ oq.length + n ≤ 15 := HQ1.out _ hqm; omega)
       have hnq := (Sp.poolGC HS.out (i := 2) rfl HQM.out).1
       replace hnq : nq = oq.length := hnq
       subst hnq
       have h0q : (0 < PS.length) = True := eq_true (by have := HPN.out; omega)
       have h0r : ((0 : Int) < (PS.length : Int)) = True := eq_true (by have := HPN.out; omega)
       have HKQ := A0_ (show 0 < PS.length by have := HPN.out; omega)
       have HCC := A0_ (show PS.length ≤ c by have := HCAP.out; omega)
       clear hkq hqm hq_
       have HNL := A0_ (show ((([] : List Cb) ++ oq) ++ ([⟨7, 7, 7⟩] : List Cb)).length = oq.length + 1 by simp only [List.length_append, List.length_cons, List.length_nil]; omega)
       have HNL2 := A0_ HQ2.out.2
       go_wp2_with (first
        | ((with_reducible refine gate_dst (N := 171) rfl ?_); refine Kd.R_lit kC _ 94 ?hg (N := 171) ?hd (xs := ([] : List Cb)) (inner := []) (ok := fun _ => True) (okp := fun _ => True) ?hr ?hp (fun _ hk => hk) trivial (Below.refl _ _) (Nat.le_refl _) (by simp) ?_; (case hd => rfl); (case hg => rfl); (case hr => first | (go_simp; done) | (go_simp; rfl)); (case hp => exact (Reps.none _ _)); intro vl_ wl_ ho_ hb_ hg_ hn_; clear hg_ hn_; replace HS := A0_ (Sp.made' HS.out hb_ ho_); clear ho_ hb_; obtain ⟨Aown, cown, ev_⟩ := Sp.slice HS.out (i := 0) rfl; subst ev_; have hx : wl_.cell? ad = some (.slice Aq oq.length cq) := (show _ from Sp.slCell0V HS.out (i := 2) rfl HKQ.out HQK.out))
        | ((with_reducible refine gate_builtin (b := .append) (xs := #[.tmp 171, .tmp 174]) rfl ?_); at_builtin; obtain ⟨fp_, ho_, hf_, hc_⟩ := Sp.row HS.out (i := 0) rfl; refine Kd.R_append_rows kC (w0 := w0) w0.heap.size rfl (.tmp 171) (.tmp 174) 35 94 ((.agg #[(.int .i64 0), (.int .i64 0), (.int .i64 0)])) 24 rfl Try.underlying35 info94 rfl (by decide) (by omega) (.slice Aown (([] : List Cb)).length cown) (([] : List Cb)) (oq) _ _ _ _ (fun _ => False) rfl rfl ho_ ((Sp.poolGC HS.out (i := 3) rfl HQM.out).2.2) (fun _ _ h => h) (fun _ h => h.elim) (fun _ h => Or.inr h) HS.out.below HS.out.below.size ?aL ?_; (case aL => (have := HQ2.out; simp only [List.length_cons, List.length_nil]; omega)); intro va_ wa_ ho hb hg hat; replace HS := A0_ (hc_ _ _ _ ho hg); clear ho hb hg hat hc_ hf_ ho_ fp_; obtain ⟨AP1, cP1, ev_⟩ := Sp.slice HS.out (i := 0) rfl; subst ev_; clear hx)
        | ((with_reducible refine gate_dst (N := 177) rfl ?_); refine Kd.R_lit kC _ 94 ?hg (N := 177) ?hd (xs := ([⟨7, 7, 7⟩] : List Cb)) (inner := [.int .i64 7, .int .i64 7, .int .i64 7]) (ok := fun _ => True) (okp := fun _ => True) ?hr ?hp (fun _ hk => hk) trivial (Below.refl _ _) (Nat.le_refl _) (by simp) ?_; (case hd => rfl); (case hg => rfl); (case hr => first | (go_simp; done) | (go_simp; rfl)); (case hp => exact (Reps.c3 (reps1C _ _ _ ⟨7, 7, 7⟩) (Reps.none _ _))); intro vl_ wl_ ho_ hb_ hg_ hn_; clear hg_ hn_; replace HS := A0_ (Sp.made' HS.out hb_ ho_); clear ho_ hb_; obtain ⟨Aone, cone, ev_⟩ := Sp.slice HS.out (i := 0) rfl; subst ev_)
        | ((with_reducible refine gate_builtin (b := .append) (xs := #[.tmp 175, .tmp 177]) rfl ?_); at_builtin; obtain ⟨fp_, ho_, hf_, hc_⟩ := Sp.row HS.out (i := 1) rfl; refine Kd.R_append_rows kC (w0 := w0) w0.heap.size rfl (.tmp 175) (.tmp 177) 35 94 ((.agg #[(.int .i64 0), (.int .i64 0), (.int .i64 0)])) 24 rfl Try.underlying35 info94 rfl (by decide) (by omega) (.slice AP1 ((([] : List Cb) ++ oq)).length cP1) ((([] : List Cb) ++ oq)) (([⟨7, 7, 7⟩] : List Cb)) _ _ _ _ (fun _ => False) rfl rfl ho_ ((Sp.reads HS.out (i := 0) rfl).2.2) (fun _ _ h => h) (fun _ h => h.elim) (fun _ h => Or.inr h) HS.out.below HS.out.below.size ?aL ?_; (case aL => (have := HQ2.out; simp only [List.length_append, List.length_cons, List.length_nil]; omega)); intro va_ wa_ ho hb hg hat; replace HS := A0_ (hc_ _ _ _ ho hg); clear ho hb hg hat hc_ hf_ ho_ fp_; obtain ⟨AP2, cP2, ev_⟩ := Sp.slice HS.out (i := 1) rfl; subst ev_)
        | ((with_reducible refine gate_store (t := 35) (p := 179) rfl ?_); obtain ⟨w1_, hr_, hs_⟩ := Sp.slStore HS.out (i := 3) rfl 0 HKQ.out (AP2, (((([] : List Cb) ++ oq) ++ ([⟨7, 7, 7⟩] : List Cb))).length, cP2); refine store_event rfl rfl rfl (exec_store (v := .pointer (some ad)) (u := (.slice AP2 (((([] : List Cb) ++ oq) ++ ([⟨7, 7, 7⟩] : List Cb))).length cP2)) rfl ?hp ?hx (by first | exact hr_ | simpa using hr_)) ?_; (case hp => first | rfl | (go_simp; done) | (go_simp; rfl)); (case hx => first | rfl | (go_simp; done) | (go_simp; rfl)); intro ws_ hw_; rw [← hw_] at hs_; clear hr_ hw_ HS; have HS := A0_ hs_; clear hs_)
        | ((with_reducible refine gate_store (t := 26) (p := 2) rfl ?_); refine store_event rfl rfl rfl (exec_store (v := .pointer (some ⟨gr, 0, none⟩)) (u := (.agg #[.slice (some ad) PS.length c])) rfl ?hp ?hx (Sp.blkStore HS.out (i := 5) rfl ((.agg #[.slice (some ad) PS.length c])) (#[.slice (some ad) PS.length c]) rfl rfl (by kernel_rfl) (by first | (simp; done) | (simp [Value.oneCell']; done) | (simp; exact ⟨rfl, rfl, rfl⟩)))) ?_; (case hp => first | rfl | (go_simp; done) | (go_simp; rfl)); (case hx => first | rfl | (go_simp; done) | (go_simp; rfl)); intro ws_ hw_; have HS_ := A0_ (Sp.blkAll HS.out (i := 5) rfl (#[.slice (some ad) PS.length c]) rfl); rw [← hw_] at HS_; clear HS hw_; have HS := HS_; clear HS_))
       (try simp only [Exit.inBlock, Exit.then]); refine bodyPost_ret (results_cell_row rfl _ _ gr 26 #[.slice (some ad) PS.length c] (0, 0) _ rfl (Sp.blk HS.out (i := 5) rfl).1 Try.underlying26 rfl (by kernel_rfl)) rfl ?_
       have := HNL2.out
       replace HS := A0_ (Sp.arr (pre := [Res.row kC 94 w0.heap.size (.slice Aone (([⟨7, 7, 7⟩] : List Cb)).length cone) ([⟨7, 7, 7⟩] : List Cb), Res.row kC 94 w0.heap.size (.slice AP2 (((([] : List Cb) ++ oq) ++ ([⟨7, 7, 7⟩] : List Cb))).length cP2) ((([] : List Cb) ++ oq) ++ ([⟨7, 7, 7⟩] : List Cb)), srcR w0 gs code p9 s9, Res.row kSl 35 w0.heap.size (.slice (some ad) PS.length c) ((QS.map Prod.fst).set 0 (AP2, (((([] : List Cb) ++ oq) ++ ([⟨7, 7, 7⟩] : List Cb))).length, cP2)), Res.poolG kC 94 w0.heap.size L, Res.blk gr #[.slice (some ad) PS.length c] 26]) (pre' := [Res.row kC 94 w0.heap.size (.slice AP2 (((([] : List Cb) ++ oq) ++ ([⟨7, 7, 7⟩] : List Cb))).length cP2) ((([] : List Cb) ++ oq) ++ ([⟨7, 7, 7⟩] : List Cb)), Res.poolG kC 94 w0.heap.size L, srcR w0 gs code p9 s9, Res.row kSl 35 w0.heap.size (.slice (some ad) PS.length c) ((QS.map Prod.fst).set 0 (AP2, (((([] : List Cb) ++ oq) ++ ([⟨7, 7, 7⟩] : List Cb))).length, cP2)), Res.blk gr #[.slice (some ad) PS.length c] 26, Res.row kC 94 w0.heap.size (.slice Aone (([⟨7, 7, 7⟩] : List Cb)).length cone) ([⟨7, 7, 7⟩] : List Cb)]) (rest := rest) [1, 4, 2, 3, 5, 0] HS.out rfl rfl)
       replace HS := A0_ (Sp.poolGAdd HS.out)
       replace HS := A0_ (Sp.arr (pre := [Res.poolG kC 94 w0.heap.size (L ++ [((AP2, ((([] : List Cb) ++ oq) ++ ([⟨7, 7, 7⟩] : List Cb)).length, cP2), (([] : List Cb) ++ oq) ++ ([⟨7, 7, 7⟩] : List Cb))]), srcR w0 gs code p9 s9, Res.row kSl 35 w0.heap.size (.slice (some ad) PS.length c) ((QS.map Prod.fst).set 0 (AP2, (((([] : List Cb) ++ oq) ++ ([⟨7, 7, 7⟩] : List Cb))).length, cP2)), Res.blk gr #[.slice (some ad) PS.length c] 26, Res.row kC 94 w0.heap.size (.slice Aone (([⟨7, 7, 7⟩] : List Cb)).length cone) ([⟨7, 7, 7⟩] : List Cb)]) (pre' := [srcR w0 gs code p9 s9, Res.row kSl 35 w0.heap.size (.slice (some ad) PS.length c) ((QS.map Prod.fst).set 0 (AP2, (((([] : List Cb) ++ oq) ++ ([⟨7, 7, 7⟩] : List Cb))).length, cP2)), Res.poolG kC 94 w0.heap.size (L ++ [((AP2, ((([] : List Cb) ++ oq) ++ ([⟨7, 7, 7⟩] : List Cb)).length, cP2), (([] : List Cb) ++ oq) ++ ([⟨7, 7, 7⟩] : List Cb))]), Res.blk gr #[.slice (some ad) PS.length c] 26, Res.row kC 94 w0.heap.size (.slice Aone (([⟨7, 7, 7⟩] : List Cb)).length cone) ([⟨7, 7, 7⟩] : List Cb)]) (rest := rest) [1, 2, 0, 3, 4] HS.out rfl rfl)
       replace HS := A0_ ((show Sp w0 ([srcR w0 gs code p9 s9, Res.row kSl 35 w0.heap.size (.slice (some ad) PS.length c) ((QS.map Prod.fst).set 0 (AP2, (((([] : List Cb) ++ oq) ++ ([⟨7, 7, 7⟩] : List Cb))).length, cP2)), Res.poolG kC 94 w0.heap.size (L ++ [((AP2, ((([] : List Cb) ++ oq) ++ ([⟨7, 7, 7⟩] : List Cb)).length, cP2), (([] : List Cb) ++ oq) ++ ([⟨7, 7, 7⟩] : List Cb))]), Res.blk gr #[.slice (some ad) PS.length c] 26] ++ rest) _ from Sp.out (HS.out) 4))
       have hl : (QS.set 0 ((AP2, ((([] : List Cb) ++ oq) ++ ([⟨7, 7, 7⟩] : List Cb)).length, cP2), (([] : List Cb) ++ oq) ++ ([⟨7, 7, 7⟩] : List Cb))).length = PS.length := by rw [List.length_set, HQL.out]
       exact ⟨some ad, c, QS.set 0 ((AP2, ((([] : List Cb) ++ oq) ++ ([⟨7, 7, 7⟩] : List Cb)).length, cP2), (([] : List Cb) ++ oq) ++ ([⟨7, 7, 7⟩] : List Cb)), _, _, by rw [hl], HSR.out, ⟨by rw [hl]; have := HPN.out; omega, fun q hq => by
        rcases List.mem_or_eq_of_mem_set hq with h | rfl
        ·have := HQ1.out q h; omega
        ·have := HNL.out; show ((([] : List Cb) ++ oq) ++ ([⟨7, 7, 7⟩] : List Cb)).length ≤ 64; omega⟩, by rw [hl]; exact HCC.out, Sp.drEnd HS.out (by rw [map_fst_set]; exact (List.take_of_length_le (by rw [List.length_set, List.length_set, List.length_map]; exact Nat.le_refl _)).symm) (by rw [List.length_set, List.length_set, List.length_map]; exact Nat.le_refl _) (fun q hq => by
        rcases List.mem_or_eq_of_mem_set hq with h | rfl
        ·exact List.mem_append_left _ (HQS.out q h)
        ·exact List.mem_append_right _ List.mem_cons_self)⟩
      ·go_wp2_with (first
        | ((with_reducible refine gate_store (t := 26) (p := 2) rfl ?_); refine store_event rfl rfl rfl (exec_store (v := .pointer (some ⟨gr, 0, none⟩)) (u := (.agg #[.slice A PS.length c])) rfl ?hp ?hx (Sp.blkStore HS.out (i := 3) rfl ((.agg #[.slice A PS.length c])) (#[.slice A PS.length c]) rfl rfl (by kernel_rfl) (by first | (simp; done) | (simp [Value.oneCell']; done) | (simp; exact ⟨rfl, rfl, rfl⟩)))) ?_; (case hp => first | rfl | (go_simp; done) | (go_simp; rfl)); (case hx => first | rfl | (go_simp; done) | (go_simp; rfl)); intro ws_ hw_; have HS_ := A0_ (Sp.blkAll HS.out (i := 3) rfl (#[.slice A PS.length c]) rfl); rw [← hw_] at HS_; clear HS hw_; have HS := HS_; clear HS_))
       (try simp only [Exit.inBlock, Exit.then]); refine bodyPost_ret (results_cell_row rfl _ _ gr 26 #[.slice A PS.length c] (0, 0) _ rfl (Sp.blk HS.out (i := 3) rfl).1 Try.underlying26 rfl (by kernel_rfl)) rfl ?_
       exact ⟨A, c, QS, _, _, by rw [HQL.out], HSR.out, ⟨by rw [HQL.out]; have := HPN.out; omega, fun q hq => by have := HQ1.out q hq; omega⟩, HCAP2.out, Sp.drEnd HS.out (by rw [List.take_of_length_le (by rw [List.length_map]; exact Nat.le_refl _)]) (by rw [List.length_map]; exact Nat.le_refl _) HQS.out⟩
theorem Sp.drTwo {w0 w : World} {rs : List Res} {A A1 A2 : Option Addr} {n c n1 c1 n2 c2 : Nat} {l1 l2 : List Cb} (h : Sp w0 (Res.row kSl 35 w0.heap.size (.slice A n c) [(A1, n1, c1), (A2, n2, c2)] :: Res.row kC 94 w0.heap.size (.slice A1 n1 c1) l1 :: Res.row kC 94 w0.heap.size (.slice A2 n2 c2) l2 :: rs) w) :
  Sp w0 (drR w0.heap.size A [((A1, n1, c1), l1), ((A2, n2, c2), l2)] :: rs) w := by
 have h0 := Sp.poolGNil kC 94 h
 have h1 := Sp.poolGAdd (show Sp w0 (Res.row kC 94 w0.heap.size (.slice A1 n1 c1) l1 :: Res.poolG kC 94 w0.heap.size [] :: ([Res.row kSl 35 w0.heap.size (.slice A n c) [(A1, n1, c1), (A2, n2, c2)], Res.row kC 94 w0.heap.size (.slice A2 n2 c2) l2] ++ rs)) w from
  Sp.arr (pre := [Res.poolG kC 94 w0.heap.size [], Res.row kSl 35 w0.heap.size (.slice A n c) [(A1, n1, c1), (A2, n2, c2)], Res.row kC 94 w0.heap.size (.slice A1 n1 c1) l1, Res.row kC 94 w0.heap.size (.slice A2 n2 c2) l2]) (pre' := [Res.row kC 94 w0.heap.size (.slice A1 n1 c1) l1, Res.poolG kC 94 w0.heap.size [], Res.row kSl 35 w0.heap.size (.slice A n c) [(A1, n1, c1), (A2, n2, c2)], Res.row kC 94 w0.heap.size (.slice A2 n2 c2) l2]) (rest := rs) [2, 0, 1, 3] h0 rfl rfl)
 have h2 := Sp.poolGAdd (show Sp w0 (Res.row kC 94 w0.heap.size (.slice A2 n2 c2) l2 :: Res.poolG kC 94 w0.heap.size ([] ++ [((A1, n1, c1), l1)]) :: ([Res.row kSl 35 w0.heap.size (.slice A n c) [(A1, n1, c1), (A2, n2, c2)]] ++ rs)) w from
  Sp.arr (pre := [Res.poolG kC 94 w0.heap.size ([] ++ [((A1, n1, c1), l1)]), Res.row kSl 35 w0.heap.size (.slice A n c) [(A1, n1, c1), (A2, n2, c2)], Res.row kC 94 w0.heap.size (.slice A2 n2 c2) l2]) (pre' := [Res.row kC 94 w0.heap.size (.slice A2 n2 c2) l2, Res.poolG kC 94 w0.heap.size ([] ++ [((A1, n1, c1), l1)]), Res.row kSl 35 w0.heap.size (.slice A n c) [(A1, n1, c1), (A2, n2, c2)]]) (rest := rs) [2, 0, 1] h1 rfl rfl)
 have h3 := Sp.swap h2
 exact Sp.drClose (PS := [((A1, n1, c1), l1), ((A2, n2, c2), l2)]) h3 rfl (by simp) (fun q hq => hq)
theorem Sp.drTake {w0 w : World} {rs : List Res} {base : Nat} {A : Option Addr} {PS : List (Sl × List Cb)} (m : Nat) (h : Sp w0 (drR base A PS :: rs) w) : Sp w0 (drR base A (PS.take m) :: rs) w := by
 refine Sp.weak h (i := 0) rfl (fun fp hp => ?_)
 obtain ⟨⟨n, c, hs, L⟩, f1, f2, hp, hq, hd, hi⟩ := hp
 obtain ⟨e1, e2, e3⟩ := hp
 replace e2 : PS.length ≤ hs.length := e2
 replace e1 : PS.map Prod.fst = hs.take PS.length := e1
 replace e3 : ∀ p ∈ PS, p ∈ L := e3
 refine ⟨⟨n, c, hs, L⟩, f1, f2, ⟨?_, ?_, ?_⟩, hq, hd, hi⟩
 ·show (PS.take m).map Prod.fst = hs.take (PS.take m).length
  rw [List.map_take, e1, List.take_take, List.length_take]
 ·show (PS.take m).length ≤ hs.length
  rw [List.length_take]; omega
 ·exact fun p hp => e3 p (List.mem_of_mem_take hp)
def DrPost (w0 : World) (gs : Nat) (code : List Int) (rest : List Res) (e : Ending) (w' : World) : Prop := ∃ A c PS p' s', e = .returned (.agg #[.slice A (PS : List (Sl × List Cb)).length c]) ∧ SrcOk code p' s' ∧ DrOk PS ∧ PS.length ≤ c ∧ Sp w0 (srcR w0 gs code p' s' :: drR w0.heap.size A PS :: rest) w'
theorem four (r : Int) : r = 0 ∨ r = 1 ∨ r = 2 ∨ ((r == 0) = false ∧ (r == 1) = false ∧ (r == 2) = false ∧ (r = 0) = False ∧ (r = 1) = False ∧ (r = 2) = False) := by
 by_cases a : r = 0
 ·exact .inl a
 ·by_cases b : r = 1
  ·exact .inr (.inl b)
  ·by_cases c : r = 2
   ·exact .inr (.inr (.inl c))
   ·exact .inr (.inr (.inr ⟨by rw [beq_eq_false_iff_ne]; exact a, by rw [beq_eq_false_iff_ne]; exact b, by rw [beq_eq_false_iff_ne]; exact c, eq_false a, eq_false b, eq_false c⟩))
theorem drTwo_ok {l1 l2 : List Cb} {A1 A2 : Option Addr} {n1 n2 c1 c2 : Nat} (h1 : l1.length ≤ 64) (h2 : l2.length ≤ 64) : DrOk [((A1, n1, c1), l1), ((A2, n2, c2), l2)] := ⟨by simp, fun q hq => by
 rcases List.mem_cons.1 hq with rfl | hq
 ·exact h1
 ·obtain rfl := List.mem_singleton.1 hq; exact h2⟩
set_option maxHeartbeats 16000000 in
set_option maxRecDepth 100000 in
theorem draw28_calls {w0 : World} {gs : Nat} {code : List Int} (hok : CodeOk code) {p s : Int} (hS : SrcOk code p s) (rest : List Res) (w : World) (hs : Sp w0 (srcR w0 gs code p s :: rest) w) :
  Calls Try.prog 41 #[.pointer (some ⟨gs, 0, none⟩)] w fun e w' => DrPost w0 gs code rest e w' := by
 have hu69 := Try.underlying94
 have hu34 := Try.underlying35
 have hu32 := Try.underlying26
 have HS := A0_ hs
 have HOK := A0_ hok
 have HSR := A0_ hS
 clear hs hS hok
 go_enter Try.func41, Try.ntmps41
 go_upto_region 2 with (first
  | (go_at_call 57; obtain ⟨gr, hg_⟩ : ∃ g_, g_ = (w).heap.size := ⟨_, rfl⟩; obtain ⟨w1, hw_⟩ : ∃ w_, w_ = (w).alloc (.cells #[.slice none 0 0] 26) := ⟨_, rfl⟩; (try rw [← hw_]); (try rw [← hg_]); have HS_ := A0_ (Sp.box HS.out #[.slice none 0 0] 26); rw [← hw_, ← hg_] at HS_; clear HS; have HS := HS_; clear HS_ hw_ hg_; refine (next_at HOK.out HSR.out 6 (i := 1) rfl _ HS.out).mono ?_; rintro e w2 ⟨r, p1, s1, rfl, hr_, hS1, hs_⟩; clear HSR; have HSR := A0_ hS1; replace HS := A0_ (hs_); clear hs_ hS1 hr_))
 have HS_ : Aside0 (Sp w0 ([Res.blk gr #[.slice none 0 0] 26, srcR w0 gs code p1 s1] ++ rest) _) := HS; clear HS; have HS := HS_; clear HS_
 rcases four r with h1_ | h1_ | h1_ | ⟨z0, z1, z2, z3, z4, z5⟩
 ·subst h1_
  go_wp2_with (first
   | ((with_reducible refine gate_dst (N := 25) rfl ?_); refine Kd.R_lit kC _ 94 ?hg (N := 25) ?hd (xs := ([⟨0, 0, 0⟩, ⟨1, 0, 0⟩, ⟨2, 0, 0⟩, ⟨0, 1, 0⟩, ⟨2, 1, 0⟩, ⟨0, 2, 0⟩, ⟨1, 2, 0⟩, ⟨2, 2, 0⟩, ⟨0, 0, 1⟩, ⟨2, 0, 1⟩, ⟨0, 2, 1⟩, ⟨2, 2, 1⟩] : List Cb)) (inner := [.int .i64 0, .int .i64 0, .int .i64 0, .int .i64 1, .int .i64 0, .int .i64 0, .int .i64 2, .int .i64 0, .int .i64 0, .int .i64 0, .int .i64 1, .int .i64 0, .int .i64 2, .int .i64 1, .int .i64 0, .int .i64 0, .int .i64 2, .int .i64 0, .int .i64 1, .int .i64 2, .int .i64 0, .int .i64 2, .int .i64 2, .int .i64 0, .int .i64 0, .int .i64 0, .int .i64 1, .int .i64 2, .int .i64 0, .int .i64 1, .int .i64 0, .int .i64 2, .int .i64 1, .int .i64 2, .int .i64 2, .int .i64 1]) (ok := fun _ => True) (okp := fun _ => True) ?hr ?hp (fun _ hk => hk) trivial (Below.refl _ _) (Nat.le_refl _) (by simp) ?_; (case hd => rfl); (case hg => rfl); (case hr => first | (go_simp; done) | (go_simp; rfl)); (case hp => exact (Reps.c3 (reps1C _ _ _ ⟨0, 0, 0⟩) (Reps.c3 (reps1C _ _ _ ⟨1, 0, 0⟩) (Reps.c3 (reps1C _ _ _ ⟨2, 0, 0⟩) (Reps.c3 (reps1C _ _ _ ⟨0, 1, 0⟩) (Reps.c3 (reps1C _ _ _ ⟨2, 1, 0⟩) (Reps.c3 (reps1C _ _ _ ⟨0, 2, 0⟩) (Reps.c3 (reps1C _ _ _ ⟨1, 2, 0⟩) (Reps.c3 (reps1C _ _ _ ⟨2, 2, 0⟩) (Reps.c3 (reps1C _ _ _ ⟨0, 0, 1⟩) (Reps.c3 (reps1C _ _ _ ⟨2, 0, 1⟩) (Reps.c3 (reps1C _ _ _ ⟨0, 2, 1⟩) (Reps.c3 (reps1C _ _ _ ⟨2, 2, 1⟩) (Reps.none _ _)))))))))))))); intro vl_ wl_ ho_ hb_ hg_ hn_; clear hg_ hn_; replace HS := A0_ (Sp.made' HS.out hb_ ho_); clear ho_ hb_; obtain ⟨Ax, cx, ev_⟩ := Sp.slice HS.out (i := 0) rfl; subst ev_)
   | ((with_reducible refine gate_dst (N := 28) rfl ?_); refine Kd.R_lit kC _ 94 ?hg (N := 28) ?hd (xs := ([⟨1, 1, 0⟩, ⟨1, 1, 1⟩] : List Cb)) (inner := [.int .i64 1, .int .i64 1, .int .i64 0, .int .i64 1, .int .i64 1, .int .i64 1]) (ok := fun _ => True) (okp := fun _ => True) ?hr ?hp (fun _ hk => hk) trivial (Below.refl _ _) (Nat.le_refl _) (by simp) ?_; (case hd => rfl); (case hg => rfl); (case hr => first | (go_simp; done) | (go_simp; rfl)); (case hp => exact (Reps.c3 (reps1C _ _ _ ⟨1, 1, 0⟩) (Reps.c3 (reps1C _ _ _ ⟨1, 1, 1⟩) (Reps.none _ _)))); intro vl_ wl_ ho_ hb_ hg_ hn_; clear hg_ hn_; replace HS := A0_ (Sp.made' HS.out hb_ ho_); clear ho_ hb_; obtain ⟨Ay, cy, ev_⟩ := Sp.slice HS.out (i := 0) rfl; subst ev_)
   | ((with_reducible refine gate_dst (N := 29) rfl ?_); refine Kd.R_lit kSl _ 35 ?hg (N := 29) ?hd (xs := ([(Ax, 12, cx), (Ay, 2, cy)] : List Sl)) (inner := [.slice Ax 12 cx, .slice Ay 2 cy]) (ok := fun _ => True) (okp := fun _ => True) ?hr ?hp (fun _ hk => hk) trivial (Below.refl _ _) (Nat.le_refl _) (by simp) ?_; (case hd => rfl); (case hg => rfl); (case hr => first | (go_simp; done) | (go_simp; rfl)); (case hp => exact (Reps.one rfl (Reps.one rfl (Reps.none _ _)))); intro vl_ wl_ ho_ hb_ hg_ hn_; clear hg_ hn_; replace HS := A0_ (Sp.made' HS.out hb_ ho_); clear ho_ hb_; obtain ⟨Ah, ch, ev_⟩ := Sp.slice HS.out (i := 0) rfl; subst ev_)
   | ((with_reducible refine gate_store (t := 26) (p := 2) rfl ?_); refine store_event rfl rfl rfl (exec_store (v := .pointer (some ⟨gr, 0, none⟩)) (u := (.agg #[.slice Ah 2 ch])) rfl ?hp ?hx (Sp.blkStore HS.out (i := 3) rfl ((.agg #[.slice Ah 2 ch])) (#[.slice Ah 2 ch]) rfl rfl (by kernel_rfl) (by first | (simp; done) | (simp [Value.oneCell']; done) | (simp; exact ⟨rfl, rfl, rfl⟩)))) ?_; (case hp => first | rfl | (go_simp; done) | (go_simp; rfl)); (case hx => first | rfl | (go_simp; done) | (go_simp; rfl)); intro ws_ hw_; have HS_ := A0_ (Sp.blkAll HS.out (i := 3) rfl (#[.slice Ah 2 ch]) rfl); rw [← hw_] at HS_; clear HS hw_; have HS := HS_; clear HS_))
  (try simp only [Exit.inBlock, Exit.then]); refine bodyPost_ret (results_cell_row rfl _ _ gr 26 #[.slice Ah 2 ch] (0, 0) _ rfl (Sp.blk HS.out (i := 3) rfl).1 Try.underlying26 rfl (by kernel_rfl)) rfl ?_
  have hc3 := (Sp.reads HS.out (i := 0) rfl).2.1
  replace HS := A0_ (Sp.arr (pre := [Res.row kSl 35 w0.heap.size (.slice Ah (([(Ax, 12, cx), (Ay, 2, cy)] : List Sl)).length ch) ([(Ax, 12, cx), (Ay, 2, cy)] : List Sl), Res.row kC 94 w0.heap.size (.slice Ay (([⟨1, 1, 0⟩, ⟨1, 1, 1⟩] : List Cb)).length cy) ([⟨1, 1, 0⟩, ⟨1, 1, 1⟩] : List Cb), Res.row kC 94 w0.heap.size (.slice Ax (([⟨0, 0, 0⟩, ⟨1, 0, 0⟩, ⟨2, 0, 0⟩, ⟨0, 1, 0⟩, ⟨2, 1, 0⟩, ⟨0, 2, 0⟩, ⟨1, 2, 0⟩, ⟨2, 2, 0⟩, ⟨0, 0, 1⟩, ⟨2, 0, 1⟩, ⟨0, 2, 1⟩, ⟨2, 2, 1⟩] : List Cb)).length cx) ([⟨0, 0, 0⟩, ⟨1, 0, 0⟩, ⟨2, 0, 0⟩, ⟨0, 1, 0⟩, ⟨2, 1, 0⟩, ⟨0, 2, 0⟩, ⟨1, 2, 0⟩, ⟨2, 2, 0⟩, ⟨0, 0, 1⟩, ⟨2, 0, 1⟩, ⟨0, 2, 1⟩, ⟨2, 2, 1⟩] : List Cb), Res.blk gr #[.slice Ah 2 ch] 26, srcR w0 gs code p1 s1]) (pre' := [Res.row kSl 35 w0.heap.size (.slice Ah (([(Ax, 12, cx), (Ay, 2, cy)] : List Sl)).length ch) ([(Ax, 12, cx), (Ay, 2, cy)] : List Sl), Res.row kC 94 w0.heap.size (.slice Ax (([⟨0, 0, 0⟩, ⟨1, 0, 0⟩, ⟨2, 0, 0⟩, ⟨0, 1, 0⟩, ⟨2, 1, 0⟩, ⟨0, 2, 0⟩, ⟨1, 2, 0⟩, ⟨2, 2, 0⟩, ⟨0, 0, 1⟩, ⟨2, 0, 1⟩, ⟨0, 2, 1⟩, ⟨2, 2, 1⟩] : List Cb)).length cx) ([⟨0, 0, 0⟩, ⟨1, 0, 0⟩, ⟨2, 0, 0⟩, ⟨0, 1, 0⟩, ⟨2, 1, 0⟩, ⟨0, 2, 0⟩, ⟨1, 2, 0⟩, ⟨2, 2, 0⟩, ⟨0, 0, 1⟩, ⟨2, 0, 1⟩, ⟨0, 2, 1⟩, ⟨2, 2, 1⟩] : List Cb), Res.row kC 94 w0.heap.size (.slice Ay (([⟨1, 1, 0⟩, ⟨1, 1, 1⟩] : List Cb)).length cy) ([⟨1, 1, 0⟩, ⟨1, 1, 1⟩] : List Cb), srcR w0 gs code p1 s1, Res.blk gr #[.slice Ah 2 ch] 26]) (rest := rest) [0, 2, 1, 4, 3] HS.out rfl rfl)
  exact ⟨Ah, ch, _, p1, s1, rfl, HSR.out, drTwo_ok (by simp) (by simp), hc3, Sp.out (Sp.swap (Sp.drTwo HS.out)) 2⟩
 ·subst h1_
  go_wp2_with (first
   | ((with_reducible refine gate_dst (N := 33) rfl ?_); refine Kd.R_lit kC _ 94 ?hg (N := 33) ?hd (xs := ([] : List Cb)) (inner := []) (ok := fun _ => True) (okp := fun _ => True) ?hr ?hp (fun _ hk => hk) trivial (Below.refl _ _) (Nat.le_refl _) (by simp) ?_; (case hd => rfl); (case hg => rfl); (case hr => first | (go_simp; done) | (go_simp; rfl)); (case hp => exact (Reps.none _ _)); intro vl_ wl_ ho_ hb_ hg_ hn_; clear hg_ hn_; replace HS := A0_ (Sp.made' HS.out hb_ ho_); clear ho_ hb_; obtain ⟨Ax, cx, ev_⟩ := Sp.slice HS.out (i := 0) rfl; subst ev_))
  go_loopg [3, 4] 28 (fun kq v3 v4 w' => ∃ (k : Nat) (l : List Cb) (Ao : Option Addr) (co : Nat), v4 = .int .i64 (k : Int) ∧ v3 = .slice Ao l.length co ∧ Aside0 (k ≤ 27 ∧ kq + k = 28 ∧ l.length ≤ k) ∧ Aside0 (Sp w0 ([Res.row kC 94 w0.heap.size (.slice Ao l.length co) l, Res.blk gr #[.slice none 0 0] 26, srcR w0 gs code p1 s1] ++ rest) w'))
  case atStart => exact ⟨0, [], _, _, rfl, rfl, ⟨by omega, by omega, by simp⟩, HS⟩
  case round =>
   clear HS
   obtain ⟨k, l, Ao, co, rfl, rfl, HX, HS⟩ := hrel
   obtain ⟨k1, rfl⟩ : ∃ k1, gk = k1 + 1 := ⟨gk - 1, by have := HX.out; omega⟩
   by_cases ck : k < 27
   ·have q0 : decide (k < 27) = true := decide_eq_true (by omega); have q1 : ((k : Int) < ((27 : Nat) : Int)) = True := eq_true (by omega); have q2 : (k < 27) = True := eq_true (by omega); have q3 : (0 ≤ (k : Int)) = True := eq_true (by omega)
    have q4 : ((k : Int) < 27) = True := eq_true (by omega)
    have HCK := A0_ ck
    have HW := A0_ (wrap_succ k (by omega))
    have wd : wrap64 ((k : Int) / 3) = (k : Int) / 3 := by unfold wrap64; omega
    have wd2 : wrap64 ((k : Int) / 9) = (k : Int) / 9 := by unfold wrap64; omega
    have wm : Int.tmod ((k : Int) / 3) 3 = ((k : Int) / 3) % 3 := Int.tmod_eq_emod_of_nonneg (by omega)
    by_cases c4 : k = 13
    ·subst c4
     clear ck
     go_wp2
     go_roundg k1
     case measure => omega
     case rel => exact ⟨14, l, Ao, co, rfl, rfl, ⟨by omega, by have := HX.out; omega, by have := HX.out; omega⟩, HS⟩
    ·have z4 : ((k : Int) != 13) = true := by rw [bne_iff_ne]; omega
     have z5 : ((k : Int) == 13) = false := by rw [beq_eq_false_iff_ne]; omega
     have z6 : ((k : Int) = 13) = False := eq_false (by omega)
     have z7 : (k = 13) = False := eq_false c4
     by_cases cl : l.length < 24
     ·have y0 : decide (l.length < 24) = true := decide_eq_true cl
      have y1 : ((l.length : Int) < 24) = True := eq_true (by omega)
      have y2 : (l.length < 24) = True := eq_true cl
      clear ck c4 cl
      go_wp2_with (first
       | ((with_reducible refine gate_dst (N := 54) rfl ?_); refine Kd.R_lit kC _ 94 ?hg (N := 54) ?hd (xs := ([(⟨(k : Int) % 3, (k : Int) / 3 % 3, (k : Int) / 9⟩ : Cb)] : List Cb)) (inner := [.int .i64 ((k : Int) % 3), .int .i64 ((k : Int) / 3 % 3), .int .i64 ((k : Int) / 9)]) (ok := fun _ => True) (okp := fun _ => True) ?hr ?hp (fun _ hk => hk) trivial (Below.refl _ _) (Nat.le_refl _) (by simp) ?_; (case hd => rfl); (case hg => rfl); (case hr => first | (go_simp; done) | (go_simp; rfl)); (case hp => exact (Reps.c3 (reps1C _ _ _ (⟨(k : Int) % 3, (k : Int) / 3 % 3, (k : Int) / 9⟩ : Cb)) (Reps.none _ _))); intro vl_ wl_ ho_ hb_ hg_ hn_; clear hg_ hn_; replace HS := A0_ (Sp.made' HS.out hb_ ho_); clear ho_ hb_; obtain ⟨Ae, ce, ev_⟩ := Sp.slice HS.out (i := 0) rfl; subst ev_)
       | ((with_reducible refine gate_builtin (b := .append) (xs := #[.tmp 45, .tmp 54]) rfl ?_); at_builtin; obtain ⟨fp_, ho_, hf_, hc_⟩ := Sp.row HS.out (i := 1) rfl; refine Kd.R_append_rows kC (w0 := w0) w0.heap.size rfl (.tmp 45) (.tmp 54) 35 94 ((.agg #[(.int .i64 0), (.int .i64 0), (.int .i64 0)])) 24 rfl Try.underlying35 info94 rfl (by decide) (by omega) (.slice Ao l.length co) (l) (([(⟨(k : Int) % 3, (k : Int) / 3 % 3, (k : Int) / 9⟩ : Cb)] : List Cb)) _ _ _ _ (fun _ => False) rfl rfl ho_ ((Sp.reads HS.out (i := 0) rfl).2.2) (fun _ _ h => h) (fun _ h => h.elim) (fun _ h => Or.inr h) HS.out.below HS.out.below.size ?aL ?_; (case aL => (have := HX.out; simp only [List.length_cons, List.length_nil]; omega)); intro va_ wa_ ho hb hg hat; replace HS := A0_ (hc_ _ _ _ ho hg); clear ho hb hg hat hc_ hf_ ho_ fp_; obtain ⟨AP1, cP1, ev_⟩ := Sp.slice HS.out (i := 1) rfl; subst ev_))
      go_roundg k1
      case measure => omega
      case rel =>
       replace HS := A0_ ((show Sp w0 ([Res.row kC 94 w0.heap.size (.slice AP1 ((l ++ ([(⟨(k : Int) % 3, (k : Int) / 3 % 3, (k : Int) / 9⟩ : Cb)] : List Cb))).length cP1) (l ++ ([(⟨(k : Int) % 3, (k : Int) / 3 % 3, (k : Int) / 9⟩ : Cb)] : List Cb)), Res.blk gr #[.slice none 0 0] 26, srcR w0 gs code p1 s1] ++ rest) _ from Sp.out (HS.out) 0))
       rw [HW.out]
       exact ⟨k + 1, _, _, _, rfl, by simp only [List.length_append, List.length_cons, List.length_nil], ⟨by have := HCK.out; omega, by have := HX.out; omega, by have := HX.out; rw [List.length_append]; simp only [List.length_cons, List.length_nil]; omega⟩, HS⟩
     ·have y0 : decide (l.length < 24) = false := decide_eq_false cl
      have y1 : ((l.length : Int) < 24) = False := eq_false (by omega)
      have y2 : (l.length < 24) = False := eq_false cl
      clear ck c4 cl
      go_wp2
      go_roundg k1
      case measure => omega
      case rel =>
       rw [HW.out]
       exact ⟨k + 1, _, _, _, rfl, rfl, ⟨by have := HCK.out; omega, by have := HX.out; omega, by have := HX.out; omega⟩, HS⟩
   ·have q0 : decide (k < 27) = false := decide_eq_false (by omega); have q1 : ((k : Int) < ((27 : Nat) : Int)) = False := eq_false (by omega); have q2 : (k < 27) = False := eq_false (by omega)
    have q4 : ((k : Int) < 27) = False := eq_false (by omega)
    have HLL := A0_ (show l.length ≤ 64 by have := HX.out; omega)
    clear ck
    go_wp2_with (first
     | ((with_reducible refine gate_dst (N := 58) rfl ?_); refine Kd.R_lit kC _ 94 ?hg (N := 58) ?hd (xs := ([⟨1, 1, 1⟩] : List Cb)) (inner := [.int .i64 1, .int .i64 1, .int .i64 1]) (ok := fun _ => True) (okp := fun _ => True) ?hr ?hp (fun _ hk => hk) trivial (Below.refl _ _) (Nat.le_refl _) (by simp) ?_; (case hd => rfl); (case hg => rfl); (case hr => first | (go_simp; done) | (go_simp; rfl)); (case hp => exact (Reps.c3 (reps1C _ _ _ ⟨1, 1, 1⟩) (Reps.none _ _))); intro vl_ wl_ ho_ hb_ hg_ hn_; clear hg_ hn_; replace HS := A0_ (Sp.made' HS.out hb_ ho_); clear ho_ hb_; obtain ⟨Ay, cy, ev_⟩ := Sp.slice HS.out (i := 0) rfl; subst ev_)
     | ((with_reducible refine gate_dst (N := 59) rfl ?_); refine Kd.R_lit kSl _ 35 ?hg (N := 59) ?hd (xs := ([(Ao, l.length, co), (Ay, 1, cy)] : List Sl)) (inner := [.slice Ao l.length co, .slice Ay 1 cy]) (ok := fun _ => True) (okp := fun _ => True) ?hr ?hp (fun _ hk => hk) trivial (Below.refl _ _) (Nat.le_refl _) (by simp) ?_; (case hd => rfl); (case hg => rfl); (case hr => first | (go_simp; done) | (go_simp; rfl)); (case hp => exact (Reps.one rfl (Reps.one rfl (Reps.none _ _)))); intro vl_ wl_ ho_ hb_ hg_ hn_; clear hg_ hn_; replace HS := A0_ (Sp.made' HS.out hb_ ho_); clear ho_ hb_; obtain ⟨Ah, ch, ev_⟩ := Sp.slice HS.out (i := 0) rfl; subst ev_)
     | ((with_reducible refine gate_store (t := 26) (p := 2) rfl ?_); refine store_event rfl rfl rfl (exec_store (v := .pointer (some ⟨gr, 0, none⟩)) (u := (.agg #[.slice Ah 2 ch])) rfl ?hp ?hx (Sp.blkStore HS.out (i := 3) rfl ((.agg #[.slice Ah 2 ch])) (#[.slice Ah 2 ch]) rfl rfl (by kernel_rfl) (by first | (simp; done) | (simp [Value.oneCell']; done) | (simp; exact ⟨rfl, rfl, rfl⟩)))) ?_; (case hp => first | rfl | (go_simp; done) | (go_simp; rfl)); (case hx => first | rfl | (go_simp; done) | (go_simp; rfl)); intro ws_ hw_; have HS_ := A0_ (Sp.blkAll HS.out (i := 3) rfl (#[.slice Ah 2 ch]) rfl); rw [← hw_] at HS_; clear HS hw_; have HS := HS_; clear HS_))
    (try simp only [Exit.inBlock, Exit.then]); refine bodyPost_ret (results_cell_row rfl _ _ gr 26 #[.slice Ah 2 ch] (0, 0) _ rfl (Sp.blk HS.out (i := 3) rfl).1 Try.underlying26 rfl (by kernel_rfl)) rfl ?_
    have hc3 := (Sp.reads HS.out (i := 0) rfl).2.1
    replace HS := A0_ (Sp.arr (pre := [Res.row kSl 35 w0.heap.size (.slice Ah (([(Ao, l.length, co), (Ay, 1, cy)] : List Sl)).length ch) ([(Ao, l.length, co), (Ay, 1, cy)] : List Sl), Res.row kC 94 w0.heap.size (.slice Ay (([⟨1, 1, 1⟩] : List Cb)).length cy) ([⟨1, 1, 1⟩] : List Cb), Res.row kC 94 w0.heap.size (.slice Ao l.length co) l, Res.blk gr #[.slice Ah 2 ch] 26, srcR w0 gs code p1 s1]) (pre' := [Res.row kSl 35 w0.heap.size (.slice Ah (([(Ao, l.length, co), (Ay, 1, cy)] : List Sl)).length ch) ([(Ao, l.length, co), (Ay, 1, cy)] : List Sl), Res.row kC 94 w0.heap.size (.slice Ao l.length co) l, Res.row kC 94 w0.heap.size (.slice Ay (([⟨1, 1, 1⟩] : List Cb)).length cy) ([⟨1, 1, 1⟩] : List Cb), srcR w0 gs code p1 s1, Res.blk gr #[.slice Ah 2 ch] 26]) (rest := rest) [0, 2, 1, 4, 3] HS.out rfl rfl)
    exact ⟨Ah, ch, _, p1, s1, rfl, HSR.out, drTwo_ok HLL.out (by simp), hc3, Sp.out (Sp.swap (Sp.drTwo HS.out)) 2⟩
 ·subst h1_
  go_wp2_with (first
   | ((with_reducible refine gate_dst (N := 63) rfl ?_); refine Kd.R_lit kC _ 94 ?hg (N := 63) ?hd (xs := ([] : List Cb)) (inner := []) (ok := fun _ => True) (okp := fun _ => True) ?hr ?hp (fun _ hk => hk) trivial (Below.refl _ _) (Nat.le_refl _) (by simp) ?_; (case hd => rfl); (case hg => rfl); (case hr => first | (go_simp; done) | (go_simp; rfl)); (case hp => exact (Reps.none _ _)); intro vl_ wl_ ho_ hb_ hg_ hn_; clear hg_ hn_; replace HS := A0_ (Sp.made' HS.out hb_ ho_); clear ho_ hb_; obtain ⟨Ax, cx, ev_⟩ := Sp.slice HS.out (i := 0) rfl; subst ev_))
  go_loopg [5, 6] 13 (fun kq v3 v4 w' => ∃ (k : Nat) (l : List Cb) (Ao : Option Addr) (co : Nat), v4 = .int .i64 (k : Int) ∧ v3 = .slice Ao l.length co ∧ Aside0 (k ≤ 12 ∧ kq + k = 13 ∧ l.length ≤ k) ∧ Aside0 (Sp w0 ([Res.row kC 94 w0.heap.size (.slice Ao l.length co) l, Res.blk gr #[.slice none 0 0] 26, srcR w0 gs code p1 s1] ++ rest) w'))
  case atStart => exact ⟨0, [], _, _, rfl, rfl, ⟨by omega, by omega, by simp⟩, HS⟩
  case round =>
   clear HS
   obtain ⟨k, l, Ao, co, rfl, rfl, HX, HS⟩ := hrel
   obtain ⟨k1, rfl⟩ : ∃ k1, gk = k1 + 1 := ⟨gk - 1, by have := HX.out; omega⟩
   by_cases ck : k < 12
   ·have q0 : decide (k < 12) = true := decide_eq_true (by omega); have q1 : ((k : Int) < ((12 : Nat) : Int)) = True := eq_true (by omega); have q2 : (k < 12) = True := eq_true (by omega); have q3 : (0 ≤ (k : Int)) = True := eq_true (by omega)
    have q4 : ((k : Int) < 12) = True := eq_true (by omega)
    have HCK := A0_ ck
    have HW := A0_ (wrap_succ k (by omega))
    have wd : wrap64 ((k : Int) / 4) = (k : Int) / 4 := by unfold wrap64; omega
    by_cases c5 : k = 5 ∨ k = 6
    ·rcases c5 with c5 | c5
     ·subst c5
      clear ck
      go_wp2
      go_roundg k1
      case measure => omega
      case rel => exact ⟨6, l, Ao, co, rfl, rfl, ⟨by omega, by have := HX.out; omega, by have := HX.out; omega⟩, HS⟩
     ·subst c5
      clear ck
      go_wp2
      go_roundg k1
      case measure => omega
      case rel => exact ⟨7, l, Ao, co, rfl, rfl, ⟨by omega, by have := HX.out; omega, by have := HX.out; omega⟩, HS⟩
    ·have a4 : ((k : Int) != 5) = true := by rw [bne_iff_ne]; omega
     have a5 : ((k : Int) == 5) = false := by rw [beq_eq_false_iff_ne]; omega
     have a6 : ((k : Int) = 5) = False := eq_false (by omega)
     have a7 : (k = 5) = False := eq_false (by omega)
     have z4 : ((k : Int) != 6) = true := by rw [bne_iff_ne]; omega
     have z5 : ((k : Int) == 6) = false := by rw [beq_eq_false_iff_ne]; omega
     have z6 : ((k : Int) = 6) = False := eq_false (by omega)
     have z7 : (k = 6) = False := eq_false (by omega)
     clear ck c5
     go_wp2_with (first
      | ((with_reducible refine gate_dst (N := 80) rfl ?_); refine Kd.R_lit kC _ 94 ?hg (N := 80) ?hd (xs := ([(⟨(k : Int) % 4, (k : Int) / 4, 0⟩ : Cb)] : List Cb)) (inner := [.int .i64 ((k : Int) % 4), .int .i64 ((k : Int) / 4), .int .i64 0]) (ok := fun _ => True) (okp := fun _ => True) ?hr ?hp (fun _ hk => hk) trivial (Below.refl _ _) (Nat.le_refl _) (by simp) ?_; (case hd => rfl); (case hg => rfl); (case hr => first | (go_simp; done) | (go_simp; rfl)); (case hp => exact (Reps.c3 (reps1C _ _ _ (⟨(k : Int) % 4, (k : Int) / 4, 0⟩ : Cb)) (Reps.none _ _))); intro vl_ wl_ ho_ hb_ hg_ hn_; clear hg_ hn_; replace HS := A0_ (Sp.made' HS.out hb_ ho_); clear ho_ hb_; obtain ⟨Ae, ce, ev_⟩ := Sp.slice HS.out (i := 0) rfl; subst ev_)
      | ((with_reducible refine gate_builtin (b := .append) (xs := #[.tmp 74, .tmp 80]) rfl ?_); at_builtin; obtain ⟨fp_, ho_, hf_, hc_⟩ := Sp.row HS.out (i := 1) rfl; refine Kd.R_append_rows kC (w0 := w0) w0.heap.size rfl (.tmp 74) (.tmp 80) 35 94 ((.agg #[(.int .i64 0), (.int .i64 0), (.int .i64 0)])) 24 rfl Try.underlying35 info94 rfl (by decide) (by omega) (.slice Ao l.length co) (l) (([(⟨(k : Int) % 4, (k : Int) / 4, 0⟩ : Cb)] : List Cb)) _ _ _ _ (fun _ => False) rfl rfl ho_ ((Sp.reads HS.out (i := 0) rfl).2.2) (fun _ _ h => h) (fun _ h => h.elim) (fun _ h => Or.inr h) HS.out.below HS.out.below.size ?aL ?_; (case aL => (have := HX.out; simp only [List.length_cons, List.length_nil]; omega)); intro va_ wa_ ho hb hg hat; replace HS := A0_ (hc_ _ _ _ ho hg); clear ho hb hg hat hc_ hf_ ho_ fp_; obtain ⟨AP1, cP1, ev_⟩ := Sp.slice HS.out (i := 1) rfl; subst ev_))
     go_roundg k1
     case measure => omega
     case rel =>
      replace HS := A0_ ((show Sp w0 ([Res.row kC 94 w0.heap.size (.slice AP1 ((l ++ ([(⟨(k : Int) % 4, (k : Int) / 4, 0⟩ : Cb)] : List Cb))).length cP1) (l ++ ([(⟨(k : Int) % 4, (k : Int) / 4, 0⟩ : Cb)] : List Cb)), Res.blk gr #[.slice none 0 0] 26, srcR w0 gs code p1 s1] ++ rest) _ from Sp.out (HS.out) 0))
      rw [HW.out]
      exact ⟨k + 1, _, _, _, rfl, by simp only [List.length_append, List.length_cons, List.length_nil], ⟨by have := HCK.out; omega, by have := HX.out; omega, by have := HX.out; rw [List.length_append]; simp only [List.length_cons, List.length_nil]; omega⟩, HS⟩
   ·have q0 : decide (k < 12) = false := decide_eq_false (by omega); have q1 : ((k : Int) < ((12 : Nat) : Int)) = False := eq_false (by omega); have q2 : (k < 12) = False := eq_false (by omega)
    have q4 : ((k : Int) < 12) = False := eq_false (by omega)
    have HLL := A0_ (show l.length ≤ 12 by have := HX.out; omega)
    clear ck HX
    go_wp2
    clear q0 q1 q2 q4
    go_loopg [5, 7] 13 (fun kq v3 v4 w' => ∃ (k : Nat) (l : List Cb) (Ao : Option Addr) (co : Nat), v4 = .int .i64 (k : Int) ∧ v3 = .slice Ao l.length co ∧ Aside0 (k ≤ 12 ∧ kq + k = 13 ∧ l.length ≤ 12 + k) ∧ Aside0 (Sp w0 ([Res.row kC 94 w0.heap.size (.slice Ao l.length co) l, Res.blk gr #[.slice none 0 0] 26, srcR w0 gs code p1 s1] ++ rest) w'))
    case atStart => exact ⟨0, l, _, _, rfl, rfl, ⟨by omega, by omega, by have := HLL.out; omega⟩, HS⟩
    case round =>
     clear HS
     obtain ⟨k, l, Ao, co, rfl, rfl, HX, HS⟩ := hrel
     obtain ⟨k1, rfl⟩ : ∃ k1, gk = k1 + 1 := ⟨gk - 1, by have := HX.out; omega⟩
     by_cases ck : k < 12
     ·have q0 : decide (k < 12) = true := decide_eq_true (by omega); have q1 : ((k : Int) < ((12 : Nat) : Int)) = True := eq_true (by omega); have q2 : (k < 12) = True := eq_true (by omega); have q3 : (0 ≤ (k : Int)) = True := eq_true (by omega)
      have q4 : ((k : Int) < 12) = True := eq_true (by omega)
      have HCK := A0_ ck
      have HW := A0_ (wrap_succ k (by omega))
      have wd : wrap64 ((k : Int) / 4) = (k : Int) / 4 := by unfold wrap64; omega
      by_cases c5 : k = 6
      ·subst c5
       clear ck
       go_wp2
       go_roundg k1
       case measure => omega
       case rel => exact ⟨7, l, Ao, co, rfl, rfl, ⟨by omega, by have := HX.out; omega, by have := HX.out; omega⟩, HS⟩
      ·have z4 : ((k : Int) != 6) = true := by rw [bne_iff_ne]; omega
       have z5 : ((k : Int) == 6) = false := by rw [beq_eq_false_iff_ne]; omega
       have z6 : ((k : Int) = 6) = False := eq_false (by omega)
       have z7 : (k = 6) = False := eq_false (by omega)
       clear ck c5
       go_wp2_with (first
        | ((with_reducible refine gate_dst (N := 94) rfl ?_); refine Kd.R_lit kC _ 94 ?hg (N := 94) ?hd (xs := ([(⟨(k : Int) % 4, (k : Int) / 4, 1⟩ : Cb)] : List Cb)) (inner := [.int .i64 ((k : Int) % 4), .int .i64 ((k : Int) / 4), .int .i64 1]) (ok := fun _ => True) (okp := fun _ => True) ?hr ?hp (fun _ hk => hk) trivial (Below.refl _ _) (Nat.le_refl _) (by simp) ?_; (case hd => rfl); (case hg => rfl); (case hr => first | (go_simp; done) | (go_simp; rfl)); (case hp => exact (Reps.c3 (reps1C _ _ _ (⟨(k : Int) % 4, (k : Int) / 4, 1⟩ : Cb)) (Reps.none _ _))); intro vl_ wl_ ho_ hb_ hg_ hn_; clear hg_ hn_; replace HS := A0_ (Sp.made' HS.out hb_ ho_); clear ho_ hb_; obtain ⟨Ae, ce, ev_⟩ := Sp.slice HS.out (i := 0) rfl; subst ev_)
        | ((with_reducible refine gate_builtin (b := .append) (xs := #[.tmp 88, .tmp 94]) rfl ?_); at_builtin; obtain ⟨fp_, ho_, hf_, hc_⟩ := Sp.row HS.out (i := 1) rfl; refine Kd.R_append_rows kC (w0 := w0) w0.heap.size rfl (.tmp 88) (.tmp 94) 35 94 ((.agg #[(.int .i64 0), (.int .i64 0), (.int .i64 0)])) 24 rfl Try.underlying35 info94 rfl (by decide) (by omega) (.slice Ao l.length co) (l) (([(⟨(k : Int) % 4, (k : Int) / 4, 1⟩ : Cb)] : List Cb)) _ _ _ _ (fun _ => False) rfl rfl ho_ ((Sp.reads HS.out (i := 0) rfl).2.2) (fun _ _ h => h) (fun _ h => h.elim) (fun _ h => Or.inr h) HS.out.below HS.out.below.size ?aL ?_; (case aL => (have := HX.out; simp only [List.length_cons, List.length_nil]; omega)); intro va_ wa_ ho hb hg hat; replace HS := A0_ (hc_ _ _ _ ho hg); clear ho hb hg hat hc_ hf_ ho_ fp_; obtain ⟨AP1, cP1, ev_⟩ := Sp.slice HS.out (i := 1) rfl; subst ev_))
       go_roundg k1
       case measure => omega
       case rel =>
        replace HS := A0_ ((show Sp w0 ([Res.row kC 94 w0.heap.size (.slice AP1 ((l ++ ([(⟨(k : Int) % 4, (k : Int) / 4, 1⟩ : Cb)] : List Cb))).length cP1) (l ++ ([(⟨(k : Int) % 4, (k : Int) / 4, 1⟩ : Cb)] : List Cb)), Res.blk gr #[.slice none 0 0] 26, srcR w0 gs code p1 s1] ++ rest) _ from Sp.out (HS.out) 0))
        rw [HW.out]
        exact ⟨k + 1, _, _, _, rfl, by simp only [List.length_append, List.length_cons, List.length_nil], ⟨by have := HCK.out; omega, by have := HX.out; omega, by have := HX.out; rw [List.length_append]; simp only [List.length_cons, List.length_nil]; omega⟩, HS⟩
     ·have q0 : decide (k < 12) = false := decide_eq_false (by omega); have q1 : ((k : Int) < ((12 : Nat) : Int)) = False := eq_false (by omega); have q2 : (k < 12) = False := eq_false (by omega)
      have q4 : ((k : Int) < 12) = False := eq_false (by omega)
      have HLL := A0_ (show l.length ≤ 64 by have := HX.out; omega)
      clear ck
      go_wp2_with (first
       | ((with_reducible refine gate_dst (N := 98) rfl ?_); refine Kd.R_lit kC _ 94 ?hg (N := 98) ?hd (xs := ([⟨1, 1, 0⟩] : List Cb)) (inner := [.int .i64 1, .int .i64 1, .int .i64 0]) (ok := fun _ => True) (okp := fun _ => True) ?hr ?hp (fun _ hk => hk) trivial (Below.refl _ _) (Nat.le_refl _) (by simp) ?_; (case hd => rfl); (case hg => rfl); (case hr => first | (go_simp; done) | (go_simp; rfl)); (case hp => exact (Reps.c3 (reps1C _ _ _ ⟨1, 1, 0⟩) (Reps.none _ _))); intro vl_ wl_ ho_ hb_ hg_ hn_; clear hg_ hn_; replace HS := A0_ (Sp.made' HS.out hb_ ho_); clear ho_ hb_; obtain ⟨Ay, cy, ev_⟩ := Sp.slice HS.out (i := 0) rfl; subst ev_)
       | ((with_reducible refine gate_dst (N := 99) rfl ?_); refine Kd.R_lit kSl _ 35 ?hg (N := 99) ?hd (xs := ([(Ao, l.length, co), (Ay, 1, cy)] : List Sl)) (inner := [.slice Ao l.length co, .slice Ay 1 cy]) (ok := fun _ => True) (okp := fun _ => True) ?hr ?hp (fun _ hk => hk) trivial (Below.refl _ _) (Nat.le_refl _) (by simp) ?_; (case hd => rfl); (case hg => rfl); (case hr => first | (go_simp; done) | (go_simp; rfl)); (case hp => exact (Reps.one rfl (Reps.one rfl (Reps.none _ _)))); intro vl_ wl_ ho_ hb_ hg_ hn_; clear hg_ hn_; replace HS := A0_ (Sp.made' HS.out hb_ ho_); clear ho_ hb_; obtain ⟨Ah, ch, ev_⟩ := Sp.slice HS.out (i := 0) rfl; subst ev_)
       | ((with_reducible refine gate_store (t := 26) (p := 2) rfl ?_); refine store_event rfl rfl rfl (exec_store (v := .pointer (some ⟨gr, 0, none⟩)) (u := (.agg #[.slice Ah 2 ch])) rfl ?hp ?hx (Sp.blkStore HS.out (i := 3) rfl ((.agg #[.slice Ah 2 ch])) (#[.slice Ah 2 ch]) rfl rfl (by kernel_rfl) (by first | (simp; done) | (simp [Value.oneCell']; done) | (simp; exact ⟨rfl, rfl, rfl⟩)))) ?_; (case hp => first | rfl | (go_simp; done) | (go_simp; rfl)); (case hx => first | rfl | (go_simp; done) | (go_simp; rfl)); intro ws_ hw_; have HS_ := A0_ (Sp.blkAll HS.out (i := 3) rfl (#[.slice Ah 2 ch]) rfl); rw [← hw_] at HS_; clear HS hw_; have HS := HS_; clear HS_))
      (try simp only [Exit.inBlock, Exit.then]); refine bodyPost_ret (results_cell_row rfl _ _ gr 26 #[.slice Ah 2 ch] (0, 0) _ rfl (Sp.blk HS.out (i := 3) rfl).1 Try.underlying26 rfl (by kernel_rfl)) rfl ?_
      have hc3 := (Sp.reads HS.out (i := 0) rfl).2.1
      replace HS := A0_ (Sp.arr (pre := [Res.row kSl 35 w0.heap.size (.slice Ah (([(Ao, l.length, co), (Ay, 1, cy)] : List Sl)).length ch) ([(Ao, l.length, co), (Ay, 1, cy)] : List Sl), Res.row kC 94 w0.heap.size (.slice Ay (([⟨1, 1, 0⟩] : List Cb)).length cy) ([⟨1, 1, 0⟩] : List Cb), Res.row kC 94 w0.heap.size (.slice Ao l.length co) l, Res.blk gr #[.slice Ah 2 ch] 26, srcR w0 gs code p1 s1]) (pre' := [Res.row kSl 35 w0.heap.size (.slice Ah (([(Ao, l.length, co), (Ay, 1, cy)] : List Sl)).length ch) ([(Ao, l.length, co), (Ay, 1, cy)] : List Sl), Res.row kC 94 w0.heap.size (.slice Ao l.length co) l, Res.row kC 94 w0.heap.size (.slice Ay (([⟨1, 1, 0⟩] : List Cb)).length cy) ([⟨1, 1, 0⟩] : List Cb), srcR w0 gs code p1 s1, Res.blk gr #[.slice Ah 2 ch] 26]) (rest := rest) [0, 2, 1, 4, 3] HS.out rfl rfl)
      exact ⟨Ah, ch, _, p1, s1, rfl, HSR.out, drTwo_ok HLL.out (by simp), hc3, Sp.out (Sp.swap (Sp.drTwo HS.out)) 2⟩
 ·
  go_upto_region 26 with (first
   | (go_at_call 66; refine (draw27_calls HOK.out HSR.out _ _ (Sp.swap HS.out)).mono ?_; rintro e w3 ⟨A, c, PS, p2, s2, rfl, hS1, hd_, hc_, hs_⟩; clear HSR; have HSR := A0_ hS1; have HD := A0_ hd_; have HC := A0_ hc_; replace HS := A0_ (hs_); clear hs_ hS1 hd_ hc_)
   | ((with_reducible refine gate_dst (N := 8) rfl ?_); refine be_ (N := 8) (cs := #[.slice none 0 0]) (t := 26) ?_; intro gb hgb_ wb_ hcb_ hbb_; replace HS := A0_ (Sp.boxed HS.out hgb_ hcb_ hbb_); clear hgb_ hcb_ hbb_)
   | ((with_reducible refine gate_store (t := 26) (p := 8) rfl ?_); refine store_event rfl rfl rfl (exec_store (v := .pointer (some ⟨gb, 0, none⟩)) (u := (.agg #[.slice A PS.length c])) rfl ?hp ?hx (Sp.blkStore HS.out (i := 0) rfl ((.agg #[.slice A PS.length c])) (#[.slice A PS.length c]) rfl rfl (by kernel_rfl) (by first | (simp; done) | (simp [Value.oneCell']; done) | (simp; exact ⟨rfl, rfl, rfl⟩)))) ?_; (case hp => first | rfl | (go_simp; done) | (go_simp; rfl)); (case hx => first | rfl | (go_simp; done) | (go_simp; rfl)); intro ws_ hw_; have HS_ := A0_ (Sp.blkAll HS.out (i := 0) rfl (#[.slice A PS.length c]) rfl); rw [← hw_] at HS_; clear HS hw_; have HS := HS_; clear HS_))
  clear z0 z1 z2 z3 z4 z5
  have HS_ : Aside0 (Sp w0 ([Res.blk gb #[.slice A PS.length c] 26, srcR w0 gs code p2 s2, drR w0.heap.size A PS, Res.blk gr #[.slice none 0 0] 26] ++ rest) _) := HS; clear HS; have HS := HS_; clear HS_
  have hb0 := (cl_ HS 0 0 rfl).trans rfl
  by_cases cl : 2 < PS.length
  ·have y0 : decide (2 < PS.length) = true := decide_eq_true cl
   have y1 : ((2 : Int) < (PS.length : Int)) = True := eq_true (by omega)
   have y2 : (2 < PS.length) = True := eq_true cl
   have HCL := A0_ cl
   have h2c : 2 ≤ c := by have := HC.out; omega
   have h2d : (2 ≤ c) = True := eq_true h2c
   clear cl
   go_wp2_with (first
    | (go_at_call 57; refine (next_at HOK.out HSR.out 8 (i := 1) rfl _ HS.out).mono ?_; rintro e w4 ⟨r2, p3, s3, rfl, hr_, hS1, hs_⟩; clear HSR; have HSR := A0_ hS1; replace HS := A0_ (hs_); clear hs_ hS1 hr_; clear hb0; have hb0 := (cl_ HS 0 0 rfl).trans rfl; by_cases c8 : 0 < r2)
    | ((with_reducible refine gate_store (t := 26) (p := 8) rfl ?_); refine store_event rfl rfl rfl (exec_store (v := .pointer (some ⟨gb, 0, none⟩)) (u := (.agg #[.slice A 2 c])) rfl ?hp ?hx (Sp.blkStore HS.out (i := 0) rfl ((.agg #[.slice A 2 c])) (#[.slice A 2 c]) rfl rfl (by kernel_rfl) (by first | (simp; done) | (simp [Value.oneCell']; done) | (simp; exact ⟨rfl, rfl, rfl⟩)))) ?_; (case hp => first | rfl | (go_simp; done) | (go_simp; rfl)); (case hx => first | rfl | (go_simp; done) | (go_simp; rfl)); intro ws_ hw_; have HS_ := A0_ (Sp.blkAll HS.out (i := 0) rfl (#[.slice A 2 c]) rfl); rw [← hw_] at HS_; clear HS hw_; have HS := HS_; clear HS_; clear hb0; have hb0 := (cl_ HS 0 0 rfl).trans rfl)
    | ((with_reducible refine gate_store (t := 26) (p := 2) rfl ?_); refine store_event rfl rfl rfl (exec_store (v := .pointer (some ⟨gr, 0, none⟩)) (u := (.agg #[.slice A 2 c])) rfl ?hp ?hx (Sp.blkStore HS.out (i := 3) rfl ((.agg #[.slice A 2 c])) (#[.slice A 2 c]) rfl rfl (by kernel_rfl) (by first | (simp; done) | (simp [Value.oneCell']; done) | (simp; exact ⟨rfl, rfl, rfl⟩)))) ?_; (case hp => first | rfl | (go_simp; done) | (go_simp; rfl)); (case hx => first | rfl | (go_simp; done) | (go_simp; rfl)); intro ws_ hw_; have HS_ := A0_ (Sp.blkAll HS.out (i := 3) rfl (#[.slice A 2 c]) rfl); rw [← hw_] at HS_; clear HS hw_; have HS := HS_; clear HS_)
    | ((with_reducible refine gate_store (t := 26) (p := 2) rfl ?_); refine store_event rfl rfl rfl (exec_store (v := .pointer (some ⟨gr, 0, none⟩)) (u := (.agg #[.slice A PS.length c])) rfl ?hp ?hx (Sp.blkStore HS.out (i := 3) rfl ((.agg #[.slice A PS.length c])) (#[.slice A PS.length c]) rfl rfl (by kernel_rfl) (by first | (simp; done) | (simp [Value.oneCell']; done) | (simp; exact ⟨rfl, rfl, rfl⟩)))) ?_; (case hp => first | rfl | (go_simp; done) | (go_simp; rfl)); (case hx => first | rfl | (go_simp; done) | (go_simp; rfl)); intro ws_ hw_; have HS_ := A0_ (Sp.blkAll HS.out (i := 3) rfl (#[.slice A PS.length c]) rfl); rw [← hw_] at HS_; clear HS hw_; have HS := HS_; clear HS_))
   ·(try simp only [Exit.inBlock, Exit.then]); refine bodyPost_ret (results_cell_row rfl _ _ gr 26 #[.slice A 2 c] (0, 0) _ rfl (Sp.blk HS.out (i := 3) rfl).1 Try.underlying26 rfl (by kernel_rfl)) rfl ?_
    have hl : (PS.take 2).length = 2 := by rw [List.length_take]; have := HCL.out; omega
    exact ⟨A, c, PS.take 2, _, _, by rw [hl], HSR.out, ⟨by rw [hl]; omega, fun q hq => HD.out.each q (List.mem_of_mem_take hq)⟩, by rw [hl]; exact h2c, Sp.swap (Sp.drTake 2 (Sp.swap (show Sp w0 ([srcR w0 gs code _ _, drR w0.heap.size A PS] ++ rest) _ from Sp.out (Sp.out HS.out 3) 0)))⟩
   ·(try simp only [Exit.inBlock, Exit.then]); refine bodyPost_ret (results_cell_row rfl _ _ gr 26 #[.slice A PS.length c] (0, 0) _ rfl (Sp.blk HS.out (i := 3) rfl).1 Try.underlying26 rfl (by kernel_rfl)) rfl ?_
    exact ⟨A, c, PS, _, _, rfl, HSR.out, HD.out, HC.out, Sp.out (Sp.out HS.out 3) 0⟩
  ·have y0 : decide (2 < PS.length) = false := decide_eq_false cl
   have y1 : ((2 : Int) < (PS.length : Int)) = False := eq_false (by omega)
   have y2 : (2 < PS.length) = False := eq_false cl
   clear cl
   go_wp2_with (first
    | ((with_reducible refine gate_store (t := 26) (p := 2) rfl ?_); refine store_event rfl rfl rfl (exec_store (v := .pointer (some ⟨gr, 0, none⟩)) (u := (.agg #[.slice A PS.length c])) rfl ?hp ?hx (Sp.blkStore HS.out (i := 3) rfl ((.agg #[.slice A PS.length c])) (#[.slice A PS.length c]) rfl rfl (by kernel_rfl) (by first | (simp; done) | (simp [Value.oneCell']; done) | (simp; exact ⟨rfl, rfl, rfl⟩)))) ?_; (case hp => first | rfl | (go_simp; done) | (go_simp; rfl)); (case hx => first | rfl | (go_simp; done) | (go_simp; rfl)); intro ws_ hw_; have HS_ := A0_ (Sp.blkAll HS.out (i := 3) rfl (#[.slice A PS.length c]) rfl); rw [← hw_] at HS_; clear HS hw_; have HS := HS_; clear HS_))
   (try simp only [Exit.inBlock, Exit.then]); refine bodyPost_ret (results_cell_row rfl _ _ gr 26 #[.slice A PS.length c] (0, 0) _ rfl (Sp.blk HS.out (i := 3) rfl).1 Try.underlying26 rfl (by kernel_rfl)) rfl ?_
   exact ⟨A, c, PS, _, _, rfl, HSR.out, HD.out, HC.out, Sp.out (Sp.out HS.out 3) 0⟩
end Go.Proofs.Ytcobnlilmihjfaa.A

namespace Go.Proofs.Ytcobnlilmihjfaa.A
open Go.RowKit Go.Proofs.YtcobnlilmihjfaaW.PrintWords Go.Proofs.YtcobnlilmihjfaaW.PrintLast Go.Proofs.YtcobnlilmihjfaaW.PrintMore
set_option linter.unusedVariables false
set_option linter.unusedSimpArgs false
def asR (A : Option Addr) (pp : List (List Cb)) : Res := Res.ex (fun x : Nat × List (Sl × List Cb) => Res.star (Res.pure (x.2.map Prod.snd = pp)) (drR x.1 A x.2))
theorem asR_reads {w0 : World} {A : Option Addr} {pp : List (List Cb)} : RdsP w0 (asR A pp) A pp := by
 intro fp w hb hP
 obtain ⟨⟨base, PS⟩, f1, f2, hp, hq, _⟩ := hP
 have e : PS.map Prod.snd = pp := hp
 subst e
 exact drR_reads f2 w hb hq
def DrA (w0 : World) (rest : List Res) (e : Ending) (w' : World) : Prop := ∃ A c pp, e = .returned (.agg #[.slice A (pp : List (List Cb)).length c]) ∧ SzOk pp ∧ pp.length ≤ c ∧ Sp w0 (asR A pp :: rest) w'
theorem drOk_sz {PS : List (Sl × List Cb)} (h : DrOk PS) : SzOk (PS.map Prod.snd) := small_ok (by rw [List.length_map]; exact h.len) (fun p hp => by
 obtain ⟨q, hq, rfl⟩ := List.mem_map.1 hp
 exact h.each q hq)
theorem Sp.asIn {w0 w : World} {rs : List Res} {base : Nat} {A : Option Addr} {PS : List (Sl × List Cb)} (h : Sp w0 (drR base A PS :: rs) w) : Sp w0 (asR A (PS.map Prod.snd) :: rs) w := by
 have b := Sp.star_close (Sp.pureIn h (show PS.map Prod.snd = PS.map Prod.snd from rfl))
 exact Sp.ex_close (R := fun x : Nat × List (Sl × List Cb) => Res.star (Res.pure (x.2.map Prod.snd = PS.map Prod.snd)) (drR x.1 A x.2)) (base, PS) b (i := 0) rfl
theorem draw28A_calls {w0 : World} {gs : Nat} {code : List Int} (hok : CodeOk code) {p s : Int} (hS : SrcOk code p s) (rest : List Res) (w : World) (hs : Sp w0 (srcR w0 gs code p s :: rest) w) :
  Calls Try.prog 41 #[.pointer (some ⟨gs, 0, none⟩)] w fun e w' => ∃ A c pp p' s', e = .returned (.agg #[.slice A (pp : List (List Cb)).length c]) ∧ SrcOk code p' s' ∧ SzOk pp ∧ pp.length ≤ c ∧ Sp w0 (srcR w0 gs code p' s' :: asR A pp :: rest) w' := by
 refine (draw28_calls hok hS rest w hs).mono ?_
 rintro e w' ⟨A, c, PS, p', s', rfl, h1, h2, h3, h4⟩
 exact ⟨A, c, PS.map Prod.snd, p', s', by rw [List.length_map], h1, drOk_sz h2, by rw [List.length_map]; exact h3, Sp.swap (Sp.asIn (Sp.swap h4))⟩
set_option maxHeartbeats 4000000 in
set_option maxRecDepth 100000 in
theorem drawStates_calls (Ac : Option Addr) (cc : Nat) (code : List Int) (w : World) (hok : CodeOk code) (hC : Kd.C (Kd.int .u8) w Ac code.length code) (hcc : code.length ≤ cc) :
  Calls Try.prog 17 #[.slice Ac code.length cc] w fun e w' => DrA w [] e w' := by
 have hu32 := Try.underlying26
 have HS := A0_ (Sp.start w)
 have HOK := A0_ hok
 have HC := A0_ hC
 have HCC := A0_ hcc
 clear hok hC hcc
 go_enter Try.func17, Try.ntmps17
 go_wp2_with (first
  | (go_at_call 42; obtain ⟨gr, hg_⟩ : ∃ g_, g_ = (w).heap.size := ⟨_, rfl⟩; obtain ⟨wq, hw_⟩ : ∃ w_, w_ = (w).alloc (.cells #[.slice none 0 0] 26) := ⟨_, rfl⟩; (try rw [← hw_]); (try rw [← hg_]); have HS_ := A0_ (Sp.box HS.out #[.slice none 0 0] 26); rw [← hw_, ← hg_] at HS_; clear HS; have HS := HS_; clear HS_ hw_ hg_; refine (from_calls HOK.out (Kd.C_below HC.out HS.out.below) HCC.out).mono ?_; rintro e w2 ⟨g, p, s, rfl, hS_, hl_⟩; have HL := A0_ hl_; have HSR := A0_ hS_; clear hl_ hS_)
  | (go_at_call 41; refine (draw28_calls HOK.out HSR.out [] _ HL.out).mono ?_; rintro e w3 ⟨A, c, PS, p2, s2, rfl, hS1, hd_, hc_, hs_⟩; have HD := A0_ hd_; have HCL := A0_ hc_; replace HS := A0_ (Sp.app HS.out hs_); clear hs_ hS1 hd_ hc_ HL)
  | ((with_reducible refine gate_store (t := 26) (p := 2) rfl ?_); refine store_event rfl rfl rfl (exec_store (v := .pointer (some ⟨gr, 0, none⟩)) (u := (.agg #[.slice A PS.length c])) rfl ?hp ?hx (Sp.blkStore HS.out (i := 2) rfl ((.agg #[.slice A PS.length c])) (#[.slice A PS.length c]) rfl rfl (by kernel_rfl) (by first | (simp; done) | (simp [Value.oneCell']; done) | (simp; exact ⟨rfl, rfl, rfl⟩)))) ?_; (case hp => first | rfl | (go_simp; done) | (go_simp; rfl)); (case hx => first | rfl | (go_simp; done) | (go_simp; rfl)); intro ws_ hw_; have HS_ := A0_ (Sp.blkAll HS.out (i := 2) rfl (#[.slice A PS.length c]) rfl); rw [← hw_] at HS_; clear HS hw_; have HS := HS_; clear HS_))
 (try simp only [Exit.inBlock, Exit.then]); refine bodyPost_ret (results_cell_row rfl _ _ gr 26 #[.slice A PS.length c] (0, 0) _ rfl (Sp.blk HS.out (i := 2) rfl).1 Try.underlying26 rfl (by kernel_rfl)) rfl ?_
 exact ⟨A, c, PS.map Prod.snd, by rw [List.length_map], drOk_sz HD.out, by rw [List.length_map]; exact HCL.out, Sp.asIn (show Sp w [drR wq.heap.size A PS] _ from Sp.out (Sp.out HS.out 2) 0)⟩
def drWay (A : Option Addr) (way : List Int) : Res := Res.ex (fun x : Nat × Nat => Res.row kI 2 x.1 (.slice A way.length x.2) way)
theorem drWay_reads {w0 : World} {A : Option Addr} {way : List Int} : RdsI w0 (drWay A way) A way := by
 intro fp w hb hP
 obtain ⟨x, hx⟩ := hP
 exact RdsI.row (base := x.1) fp w hb hx
theorem Sp.wayIn {w0 w : World} {rs : List Res} {i base c : Nat} {A : Option Addr} {way : List Int} (h : Sp w0 rs w) (hi : rs[i]? = some (Res.row kI 2 base (.slice A way.length c) way)) : Sp w0 (rs.set i (drWay A way)) w := Sp.ex_close (R := fun x : Nat × Nat => Res.row kI 2 x.1 (.slice A way.length x.2) way) (base, c) h hi
theorem Sp.wayTake {w0 w : World} {rs : List Res} {base n c : Nat} {A : Option Addr} {L : List Int} (h : Sp w0 (Res.row kI 2 base (.slice A n c) L :: rs) w) (k : Nat) (hk : k ≤ L.length) : Sp w0 (drWay A (L.take k) :: rs) w := by
 have h1 : Sp w0 (Res.row kI 2 base (.slice A k c) (L.take k) :: rs) w := Sp.take h (i := 0) rfl k hk
 have e : (L.take k).length = k := by rw [List.length_take]; omega
 refine Sp.ex_close (R := fun x : Nat × Nat => Res.row kI 2 x.1 (.slice A (L.take k).length x.2) (L.take k)) (base, c) (i := 0) (rs := Res.row kI 2 base (.slice A (L.take k).length c) (L.take k) :: rs) ?_ rfl
 rw [e]
 exact h1
def DrFol (w0 : World) (e : Ending) (w' : World) : Prop := ∃ A c pp Aw cw way, e = .returned (.tuple #[.agg #[.slice A (pp : List (List Cb)).length c], .slice Aw (way : List Int).length cw]) ∧ SzOk pp ∧ pp.length ≤ c ∧ (way.length ≤ cw ∧ way.length ≤ 1200 ∧ ∀ m ∈ way, m ≤ 9223372036854775807) ∧ Sp w0 [asR A pp, drWay Aw way] w'
theorem wrap_top (x : Int) : wrap64 x ≤ 9223372036854775807 := by unfold wrap64; omega
def dfwF.T5 : Bool × List (List Nat × List Nat) := (true, [([], []), ([], []), ([1], [1]), ([2], [2]), ([], []), ([4, 2], [4]), ([5], [5]), ([3, 6], [3, 6]), ([], []), ([8, 5], [8]), ([7, 9], [7, 9]), ([0, 9, 0], [0]), ([10, 11, 0, 1, 2, 3, 4, 5, 6, 7, 8, 9, 10, 11], [10])])
def dfwF.B5 : List Nat := [0, 0, 2, 6, 0, 22, 54, 126, 0, 310, 1022, 823, 4095]
theorem dfwF.tab5 : rtab .any (opsOf Try.f20 5) = dfwF.T5 := by kernel_rfl
theorem dfwF.bits5 : waitsOk dfwF.T5.2 dfwF.B5 = true := by kernel_rfl
set_option maxHeartbeats 8000000 in
set_option maxRecDepth 100000 in
theorem drawFollow_calls (Ac : Option Addr) (cc : Nat) (code : List Int) (w : World) (hok : CodeOk code) (hC : Kd.C (Kd.int .u8) w Ac code.length code) (hcc : code.length ≤ cc) :
  Calls Try.prog 20 #[.slice Ac code.length cc] w fun e w' => DrFol w e w' := by
 have hu32 := Try.underlying26
 have HS := A0_ (Sp.start w)
 have HOK := A0_ hok
 have HC := A0_ hC
 have HCC := A0_ hcc
 clear hok hC hcc
 go_enter Try.func20, Try.ntmps20
 go_upto_region 4 with (first
  | (go_at_call 42; obtain ⟨gr, hg_⟩ : ∃ g_, g_ = (w).heap.size := ⟨_, rfl⟩; obtain ⟨wq, hw_⟩ : ∃ w_, w_ = (w).alloc (.cells #[.slice none 0 0] 26) := ⟨_, rfl⟩; (try rw [← hw_]); (try rw [← hg_]); have HS_ := A0_ (Sp.box HS.out #[.slice none 0 0] 26); rw [← hw_, ← hg_] at HS_; clear HS; have HS := HS_; clear HS_ hw_ hg_; refine (from_calls HOK.out (Kd.C_below HC.out HS.out.below) HCC.out).mono ?_; rintro e w2 ⟨g, p, s, rfl, hS_, hl_⟩; have H0 := HS; clear HS; have HS := A0_ hl_; have HSR := A0_ hS_; clear hl_ hS_)
  | (go_at_call 41; refine (draw28A_calls HOK.out HSR.out [] _ HS.out).mono ?_; rintro e w3 ⟨A, c, pp, p2, s2, rfl, hS1, hz_, hc_, hs_⟩; clear HSR; have HSR := A0_ hS1; have HZ := A0_ hz_; have HCP := A0_ hc_; replace HS := A0_ (hs_); clear hs_ hS1 hz_ hc_)
  | ((with_reducible refine gate_dst (N := 5) rfl ?_); refine be_ (N := 5) (cs := #[.slice none 0 0]) (t := 26) ?_; intro gb hgb_ wb_ hcb_ hbb_; replace HS := A0_ (Sp.boxed HS.out hgb_ hcb_ hbb_); clear hgb_ hcb_ hbb_)
  | ((with_reducible refine gate_store (t := 26) (p := 5) rfl ?_); refine store_event rfl rfl rfl (exec_store (v := .pointer (some ⟨gb, 0, none⟩)) (u := (.agg #[.slice A pp.length c])) rfl ?hp ?hx (Sp.blkStore HS.out (i := 0) rfl ((.agg #[.slice A pp.length c])) (#[.slice A pp.length c]) rfl rfl (by kernel_rfl) (by first | (simp; done) | (simp [Value.oneCell']; done) | (simp; exact ⟨rfl, rfl, rfl⟩)))) ?_; (case hp => first | rfl | (go_simp; done) | (go_simp; rfl)); (case hx => first | rfl | (go_simp; done) | (go_simp; rfl)); intro ws_ hw_; have HS_ := A0_ (Sp.blkAll HS.out (i := 0) rfl (#[.slice A pp.length c]) rfl); rw [← hw_] at HS_; clear HS hw_; have HS := HS_; clear HS_; have hg0 := (cl_ HS 0 0 rfl).trans rfl)
  | (go_at_call 48; go_loud (refine (sExit_calls A c pp _ (Sp.rdsP HS.out (i := 2) rfl asR_reads) HCP.out HZ.out).mono ?_; rintro e w4 ⟨v1_, v2_, rfl, hs_⟩; obtain ⟨b0, hb0⟩ : ∃ b, b = ws_.heap.size := ⟨_, rfl⟩; rw [← hb0] at hs_; replace HS := A0_ (Sp.app HS.out hs_); obtain ⟨Aw, cw, e1⟩ := Sp.slice HS.out (i := 0) rfl; subst e1; clear hs_ hb0 hg0; have hg0 := (cl_ HS 2 0 rfl).trans rfl)))
 obtain ⟨way, hway⟩ : ∃ x, x = (exitW pp).1 := ⟨_, rfl⟩
 obtain ⟨oo, hoo⟩ : ∃ x, x = (exitW pp).2.1 := ⟨_, rfl⟩
 obtain ⟨bad, hbad⟩ : ∃ x, x = (exitW pp).2.2 := ⟨_, rfl⟩
 have HWL := A0_ (show way.length ≤ 1200 by rw [hway]; exact exitW_len pp)
 have HWM := A0_ (fun (h : bad = 0) => show ∀ m ∈ way, m ≤ 9223372036854775807 by rw [hway]; exact (exOk (pp := pp) (by rw [← hbad]; exact h)).mv)
 rw [← hway, ← hoo] at HS
 rw [← hway, ← hbad]
 clear hway hoo hbad
 have HS_ : Aside0 (Sp wq ([Res.row kI 2 b0 (.slice Aw way.length cw) way, Res.row kC 94 b0 v2_ oo, Res.blk gb #[.slice A pp.length c] 26, srcR wq g code p2 s2, asR A pp] ++ ([] : List Res)) _) := HS; clear HS; have HS := HS_; clear HS_
 clear hg0
 go_cut [25] from 19 to 24 (fun v25 w' => ∃ (b : Bool) (p s : Int), v25 = .bool b ∧ Aside0 (b = false → bad = 0) ∧ Aside0 (SrcOk code p s) ∧ Aside0 (Sp wq ([Res.row kI 2 b0 (.slice Aw way.length cw) way, Res.row kC 94 b0 v2_ oo, Res.blk gb #[.slice A pp.length c] 26, srcR wq g code p s, asR A pp] ++ ([] : List Res)) w'))
 case first =>
  by_cases cb : bad = 0
  ·subst cb
   go_wp2_with (first
    | (go_at_call 57; go_loud (refine (next_at HOK.out HSR.out 3 (i := 3) rfl _ HS.out).mono ?_; rintro e w5 ⟨r5, p5, s5, rfl, hr_, hS1, hs_⟩; clear HSR; have HSR := A0_ hS1; replace HS := A0_ (hs_); clear hs_ hS1 hr_)))
   all_goals
    go_meet
    case rel => exact ⟨_, _, _, rfl, ⟨fun _ => by first | rfl | trivial⟩, HSR, HS⟩
  ·have c0 : (bad == 0) = false := by rw [beq_eq_false_iff_ne]; exact cb
   have c1 : (bad != 0) = true := by rw [bne_iff_ne]; exact cb
   have c2 : (bad = 0) = False := eq_false cb
   clear cb
   go_wp2
   go_meet
   case rel => exact ⟨true, _, _, rfl, ⟨fun h => (by cases h)⟩, HSR, HS⟩
 case rest =>
  clear HS HSR
  obtain ⟨b, p, s, rfl, HB, HSR, HS⟩ := hcut
  cases b with
  | true =>
   go_wp2
   replace HS := A0_ (Sp.drew HS.out)
   refine start_ (n := 13) (S := fun w' => w'.cell? ⟨gb, 0, none⟩ = some (.slice A pp.length c)) (ds := []) #[false, false, false, false, false, false, false, false, false, false, false, false, false] (by kernel_rfl) rfl rfl ((cl_ HS 2 0 rfl).trans rfl) (fun hHeld => ?_)
   refine with_tabW dfwF.tab5 dfwF.bits5 (fun HT_ HW_ => ?_)
   generalize wc.drew = wD5_ at HS hHeld ⊢
   refine tk_ 0 (some 26) ?_
   refine on_ 1 (some 27) ?_
   refine on_ 4 (some 30) ?_
   refine on_ 8 (some 34) ?_
   refine o1_ 2 (some 28) (fun K hK => ?_)
   refine gs_ Try.func57 #[.pointer (some ⟨g, 0, none⟩), .int .i64 6] ?_
   refine (next_nat HOK.out HSR.out 6 (by decide) (i := 3) rfl _ HS.out).mono ?_
   rintro e wA11 ⟨r1, pA11, sA11, rfl, hr_, hS1, hs_⟩
   refine ⟨_, rfl, ?_⟩
   clear HSR
   have HSR := A0_ hS1
   have HB_r1 := A0_ hr_
   replace HS := A0_ (hs_)
   clear hs_ hS1 hr_
   refine hK.out _ _ ((cl_ HS 2 0 rfl).trans rfl) (fun hHeld => ?_)
   clear hK K
   refine nm_ (some 28) ?_
   refine on_ 3 (some 29) ?_
   refine o1_ 5 (some 31) (fun K hK => ?_)
   refine gs_ Try.func57 #[.pointer (some ⟨g, 0, none⟩), .int .i64 6] ?_
   refine (next_nat HOK.out HSR.out 6 (by decide) (i := 3) rfl _ HS.out).mono ?_
   rintro e wA12 ⟨r2, pA12, sA12, rfl, hr_, hS1, hs_⟩
   refine ⟨_, rfl, ?_⟩
   clear HSR
   have HSR := A0_ hS1
   have HB_r2 := A0_ hr_
   replace HS := A0_ (hs_)
   clear hs_ hS1 hr_
   refine hK.out _ _ ((cl_ HS 2 0 rfl).trans rfl) (fun hHeld => ?_)
   clear hK K
   refine nm_ (some 31) ?_
   refine on_ 6 (some 32) ?_
   refine o2_ 7 9 (some 33) (some 35) (fun K hK => ?_) (fun K hK => ?_)
   ·refine Kd.R_lit_step kI _ 2 ?hg (N := 33) ?hd (xs := ([wrap64 (12 + (r1 : Int)), wrap64 (12 + (r2 : Int))] : List Int)) (inner := [.int .i64 (wrap64 (12 + (r1 : Int))), .int .i64 (wrap64 (12 + (r2 : Int)))]) (ok := fun _ => True) (okp := fun _ => True) ?hr ?hp (fun _ hk => hk) trivial (Below.refl _ _) (Nat.le_refl _) (by simp) ?_
    (case hd => rfl)
    (case hg => rfl)
    (case hr => first | (go_simp; done) | (go_simp; rfl))
    (case hp => exact (Reps.one rfl (Reps.one rfl (Reps.none _ _))))
    intro vA13 wA13 ho hb hg_ hnew_
    clear hg_ hnew_
    replace HS := A0_ (Sp.made' HS.out hb ho)
    clear hb ho
    obtain ⟨AL, cL, eA_⟩ := Sp.slice HS.out (i := 0) rfl
    subst eA_
    have HCL := A0_ (show 2 ≤ cL from (Sp.reads HS.out (i := 0) rfl).2.1)
    refine hK.out _ _ ((cl_ HS 3 0 rfl).trans rfl) (fun hHeld => ?_)
    clear hK K
    refine nm_ (some 33) ?_
    refine o1_ 9 (some 35) (fun K hK => ?_)
    refine gs_ Try.func57 #[.pointer (some ⟨g, 0, none⟩), .int .i64 3] ?_
    refine (next_nat HOK.out HSR.out 3 (by decide) (i := 4) rfl _ HS.out).mono ?_
    rintro e wA14 ⟨k3, pA14, sA14, rfl, hr_, hS1, hs_⟩
    refine ⟨_, rfl, ?_⟩
    clear HSR
    have HSR := A0_ hS1
    have HB_k3 := A0_ hr_
    replace HS := A0_ (hs_)
    clear hs_ hS1 hr_
    have x0 : (0 ≤ (k3 : Int)) = True := eq_true (by omega)
    refine hK.out _ _ ((cl_ HS 3 0 rfl).trans rfl) (fun hHeld => ?_)
    clear hK K
    refine nm_ (some 35) ?_
    refine pure_ (i := 10) (N := (some 36)) (v := ?_) (a' := ?_) #[true, true, true, true, true, true, true, true, true, true, true, false, false] rfl rfl (any_of HT_.out (by kernel_rfl)) (fun _ _ _ h => h) (Or.inl ⟨by rfl, ?_⟩) ?_ ?_
    rotate_left
    ·intro w'
     have hkc : k3 ≤ cL := by have h1 := HB_k3.out; have h2 := HCL.out; omega
     have hkd : (k3 ≤ cL) = True := eq_true hkc
     go_simp
     with_reducible rfl
    rotate_left
    ·simp only [Act.put, List.setIfInBounds_toArray, List.set_cons_zero, List.set_cons_succ, i64_w, i32_w]
     rfl
    refine o1_ 11 none (fun K hK => ?_)
    replace HS := A0_ (Sp.app H0.out HS.out)
    refine skip_ (w1 := wA14.setCells gr 0 (#[.slice A pp.length c] : Array Value).toList) (by rfl) rfl (exec_store (v := .pointer (some ⟨gr, 0, none⟩)) (u := (.agg #[.slice A pp.length c])) rfl (by first | rfl | (go_simp; done) | (go_simp; rfl)) (by first | rfl | (go_simp; done) | (go_simp; rfl)) (Sp.blkStore HS.out (i := 6) rfl ((.agg #[.slice A pp.length c])) (#[.slice A pp.length c]) rfl rfl (by kernel_rfl) (by first | (simp; done) | (simp [Value.oneCell']; done) | (simp; exact ⟨rfl, rfl, rfl⟩)))) ?_
    obtain ⟨wS15, hw_⟩ : ∃ w_, w_ = wA14.setCells gr 0 (#[.slice A pp.length c] : Array Value).toList := ⟨_, rfl⟩
    rw [← hw_]
    have HS_ := A0_ (Sp.blkAll HS.out (i := 6) rfl (#[.slice A pp.length c]) rfl)
    rw [← hw_] at HS_
    clear HS
    have HS := HS_
    clear HS_ hw_
    refine hK.out _ _ ((cl_ HS 3 0 rfl).trans rfl) (fun hHeld => ?_)
    clear hK K
    refine on_ 12 (some 3) ?_
    refine dn_ ?_
    replace HS := A0_ (Sp.arr (pre := [Res.row kI 2 wq.heap.size (.slice AL (([wrap64 (12 + (r1 : Int)), wrap64 (12 + (r2 : Int))] : List Int)).length cL) ([wrap64 (12 + (r1 : Int)), wrap64 (12 + (r2 : Int))] : List Int), Res.row kI 2 b0 (.slice Aw way.length cw) way, Res.row kC 94 b0 v2_ oo, Res.blk gb #[.slice A pp.length c] 26, srcR wq g code pA14 sA14, asR A pp, Res.blk gr #[.slice A pp.length c] 26]) (pre' := [Res.row kI 2 wq.heap.size (.slice AL (([wrap64 (12 + (r1 : Int)), wrap64 (12 + (r2 : Int))] : List Int)).length cL) ([wrap64 (12 + (r1 : Int)), wrap64 (12 + (r2 : Int))] : List Int), asR A pp, Res.row kI 2 b0 (.slice Aw way.length cw) way, Res.row kC 94 b0 v2_ oo, Res.blk gb #[.slice A pp.length c] 26, srcR wq g code pA14 sA14, Res.blk gr #[.slice A pp.length c] 26]) (rest := ([] : List Res)) [0, 5, 1, 2, 3, 4, 6] HS.out rfl rfl)
    have hk2 : k3 ≤ 2 := by have := HB_k3.out; omega
    have hl : (([wrap64 (12 + (r1 : Int)), wrap64 (12 + (r2 : Int))] : List Int).take k3).length = k3 := by rw [List.length_take]; simp only [List.length_cons, List.length_nil]; omega
    try go_wp2
    (try simp only [Exit.inBlock, Exit.then]); refine bodyPost_ret (results_ct rfl _ _ gr 26 #[.slice A pp.length c] (0, 0) _ rfl (Sp.blk HS.out (i := 6) rfl).1 Try.underlying26 rfl (by kernel_rfl)) rfl ?_
    exact ⟨A, c, pp, AL, cL, ([wrap64 (12 + (r1 : Int)), wrap64 (12 + (r2 : Int))] : List Int).take k3, by rw [hl]; rfl, HZ.out, HCP.out, ⟨by rw [hl]; have := HCL.out; omega, by rw [hl]; omega, fun m hm => by
     have := List.mem_of_mem_take hm
     simp only [List.mem_cons, List.not_mem_nil, or_false] at this
     rcases this with rfl | rfl <;> exact wrap_top _⟩, Sp.out (Sp.out (Sp.out (Sp.out (Sp.out (Sp.swap (Sp.wayTake HS.out k3 hk2)) 2) 2) 2) 2) 2⟩
   ·refine gs_ Try.func57 #[.pointer (some ⟨g, 0, none⟩), .int .i64 3] ?_
    refine (next_nat HOK.out HSR.out 3 (by decide) (i := 3) rfl _ HS.out).mono ?_
    rintro e wA13 ⟨k3, pA13, sA13, rfl, hr_, hS1, hs_⟩
    refine ⟨_, rfl, ?_⟩
    clear HSR
    have HSR := A0_ hS1
    have HB_k3 := A0_ hr_
    replace HS := A0_ (hs_)
    clear hs_ hS1 hr_
    have x0 : (0 ≤ (k3 : Int)) = True := eq_true (by omega)
    refine hK.out _ _ ((cl_ HS 2 0 rfl).trans rfl) (fun hHeld => ?_)
    clear hK K
    refine nm_ (some 35) ?_
    refine o2_ 7 11 (some 33) none (fun K hK => ?_) (fun K hK => ?_)
    ·refine Kd.R_lit_step kI _ 2 ?hg (N := 33) ?hd (xs := ([wrap64 (12 + (r1 : Int)), wrap64 (12 + (r2 : Int))] : List Int)) (inner := [.int .i64 (wrap64 (12 + (r1 : Int))), .int .i64 (wrap64 (12 + (r2 : Int)))]) (ok := fun _ => True) (okp := fun _ => True) ?hr ?hp (fun _ hk => hk) trivial (Below.refl _ _) (Nat.le_refl _) (by simp) ?_
     (case hd => rfl)
     (case hg => rfl)
     (case hr => first | (go_simp; done) | (go_simp; rfl))
     (case hp => exact (Reps.one rfl (Reps.one rfl (Reps.none _ _))))
     intro vA14 wA14 ho hb hg_ hnew_
     clear hg_ hnew_
     replace HS := A0_ (Sp.made' HS.out hb ho)
     clear hb ho
     obtain ⟨AL, cL, eA_⟩ := Sp.slice HS.out (i := 0) rfl
     subst eA_
     have HCL := A0_ (show 2 ≤ cL from (Sp.reads HS.out (i := 0) rfl).2.1)
     refine hK.out _ _ ((cl_ HS 3 0 rfl).trans rfl) (fun hHeld => ?_)
     clear hK K
     refine nm_ (some 33) ?_
     refine pure_ (i := 10) (N := (some 36)) (v := ?_) (a' := ?_) #[true, true, true, true, true, true, true, true, true, true, true, false, false] rfl rfl (any_of HT_.out (by kernel_rfl)) (fun _ _ _ h => h) (Or.inl ⟨by rfl, ?_⟩) ?_ ?_
     rotate_left
     ·intro w'
      have hkc : k3 ≤ cL := by have h1 := HB_k3.out; have h2 := HCL.out; omega
      have hkd : (k3 ≤ cL) = True := eq_true hkc
      go_simp
      with_reducible rfl
     rotate_left
     ·simp only [Act.put, List.setIfInBounds_toArray, List.set_cons_zero, List.set_cons_succ, i64_w, i32_w]
      rfl
     refine o1_ 11 none (fun K hK => ?_)
     replace HS := A0_ (Sp.app H0.out HS.out)
     refine skip_ (w1 := wA14.setCells gr 0 (#[.slice A pp.length c] : Array Value).toList) (by rfl) rfl (exec_store (v := .pointer (some ⟨gr, 0, none⟩)) (u := (.agg #[.slice A pp.length c])) rfl (by first | rfl | (go_simp; done) | (go_simp; rfl)) (by first | rfl | (go_simp; done) | (go_simp; rfl)) (Sp.blkStore HS.out (i := 6) rfl ((.agg #[.slice A pp.length c])) (#[.slice A pp.length c]) rfl rfl (by kernel_rfl) (by first | (simp; done) | (simp [Value.oneCell']; done) | (simp; exact ⟨rfl, rfl, rfl⟩)))) ?_
     obtain ⟨wS15, hw_⟩ : ∃ w_, w_ = wA14.setCells gr 0 (#[.slice A pp.length c] : Array Value).toList := ⟨_, rfl⟩
     rw [← hw_]
     have HS_ := A0_ (Sp.blkAll HS.out (i := 6) rfl (#[.slice A pp.length c]) rfl)
     rw [← hw_] at HS_
     clear HS
     have HS := HS_
     clear HS_ hw_
     refine hK.out _ _ ((cl_ HS 3 0 rfl).trans rfl) (fun hHeld => ?_)
     clear hK K
     refine on_ 12 (some 3) ?_
     refine dn_ ?_
     replace HS := A0_ (Sp.arr (pre := [Res.row kI 2 wq.heap.size (.slice AL (([wrap64 (12 + (r1 : Int)), wrap64 (12 + (r2 : Int))] : List Int)).length cL) ([wrap64 (12 + (r1 : Int)), wrap64 (12 + (r2 : Int))] : List Int), Res.row kI 2 b0 (.slice Aw way.length cw) way, Res.row kC 94 b0 v2_ oo, Res.blk gb #[.slice A pp.length c] 26, srcR wq g code pA13 sA13, asR A pp, Res.blk gr #[.slice A pp.length c] 26]) (pre' := [Res.row kI 2 wq.heap.size (.slice AL (([wrap64 (12 + (r1 : Int)), wrap64 (12 + (r2 : Int))] : List Int)).length cL) ([wrap64 (12 + (r1 : Int)), wrap64 (12 + (r2 : Int))] : List Int), asR A pp, Res.row kI 2 b0 (.slice Aw way.length cw) way, Res.row kC 94 b0 v2_ oo, Res.blk gb #[.slice A pp.length c] 26, srcR wq g code pA13 sA13, Res.blk gr #[.slice A pp.length c] 26]) (rest := ([] : List Res)) [0, 5, 1, 2, 3, 4, 6] HS.out rfl rfl)
     have hk2 : k3 ≤ 2 := by have := HB_k3.out; omega
     have hl : (([wrap64 (12 + (r1 : Int)), wrap64 (12 + (r2 : Int))] : List Int).take k3).length = k3 := by rw [List.length_take]; simp only [List.length_cons, List.length_nil]; omega
     try go_wp2
     (try simp only [Exit.inBlock, Exit.then]); refine bodyPost_ret (results_ct rfl _ _ gr 26 #[.slice A pp.length c] (0, 0) _ rfl (Sp.blk HS.out (i := 6) rfl).1 Try.underlying26 rfl (by kernel_rfl)) rfl ?_
     exact ⟨A, c, pp, AL, cL, ([wrap64 (12 + (r1 : Int)), wrap64 (12 + (r2 : Int))] : List Int).take k3, by rw [hl]; rfl, HZ.out, HCP.out, ⟨by rw [hl]; have := HCL.out; omega, by rw [hl]; omega, fun m hm => by
      have := List.mem_of_mem_take hm
      simp only [List.mem_cons, List.not_mem_nil, or_false] at this
      rcases this with rfl | rfl <;> exact wrap_top _⟩, Sp.out (Sp.out (Sp.out (Sp.out (Sp.out (Sp.swap (Sp.wayTake HS.out k3 hk2)) 2) 2) 2) 2) 2⟩
    ·replace HS := A0_ (Sp.app H0.out HS.out)
     refine skip_ (w1 := wA13.setCells gr 0 (#[.slice A pp.length c] : Array Value).toList) (by rfl) rfl (exec_store (v := .pointer (some ⟨gr, 0, none⟩)) (u := (.agg #[.slice A pp.length c])) rfl (by first | rfl | (go_simp; done) | (go_simp; rfl)) (by first | rfl | (go_simp; done) | (go_simp; rfl)) (Sp.blkStore HS.out (i := 5) rfl ((.agg #[.slice A pp.length c])) (#[.slice A pp.length c]) rfl rfl (by kernel_rfl) (by first | (simp; done) | (simp [Value.oneCell']; done) | (simp; exact ⟨rfl, rfl, rfl⟩)))) ?_
     obtain ⟨wS14, hw_⟩ : ∃ w_, w_ = wA13.setCells gr 0 (#[.slice A pp.length c] : Array Value).toList := ⟨_, rfl⟩
     rw [← hw_]
     have HS_ := A0_ (Sp.blkAll HS.out (i := 5) rfl (#[.slice A pp.length c]) rfl)
     rw [← hw_] at HS_
     clear HS
     have HS := HS_
     clear HS_ hw_
     refine hK.out _ _ ((cl_ HS 2 0 rfl).trans rfl) (fun hHeld => ?_)
     clear hK K
     refine o1_ 7 (some 33) (fun K hK => ?_)
     refine Kd.R_lit_step kI _ 2 ?hg (N := 33) ?hd (xs := ([wrap64 (12 + (r1 : Int)), wrap64 (12 + (r2 : Int))] : List Int)) (inner := [.int .i64 (wrap64 (12 + (r1 : Int))), .int .i64 (wrap64 (12 + (r2 : Int)))]) (ok := fun _ => True) (okp := fun _ => True) ?hr ?hp (fun _ hk => hk) trivial (Below.refl _ _) (Nat.le_refl _) (by simp) ?_
     (case hd => rfl)
     (case hg => rfl)
     (case hr => first | (go_simp; done) | (go_simp; rfl))
     (case hp => exact (Reps.one rfl (Reps.one rfl (Reps.none _ _))))
     intro vA15 wA15 ho hb hg_ hnew_
     clear hg_ hnew_
     replace HS := A0_ (Sp.made' HS.out hb ho)
     clear hb ho
     obtain ⟨AL, cL, eA_⟩ := Sp.slice HS.out (i := 0) rfl
     subst eA_
     have HCL := A0_ (show 2 ≤ cL from (Sp.reads HS.out (i := 0) rfl).2.1)
     refine hK.out _ _ ((cl_ HS 3 0 rfl).trans rfl) (fun hHeld => ?_)
     clear hK K
     refine nm_ (some 33) ?_
     refine pure_ (i := 10) (N := (some 36)) (v := ?_) (a' := ?_) #[true, true, true, true, true, true, true, true, true, true, true, true, false] rfl rfl (any_of HT_.out (by kernel_rfl)) (fun _ _ _ h => h) (Or.inl ⟨by rfl, ?_⟩) ?_ ?_
     rotate_left
     ·intro w'
      have hkc : k3 ≤ cL := by have h1 := HB_k3.out; have h2 := HCL.out; omega
      have hkd : (k3 ≤ cL) = True := eq_true hkc
      go_simp
      with_reducible rfl
     rotate_left
     ·simp only [Act.put, List.setIfInBounds_toArray, List.set_cons_zero, List.set_cons_succ, i64_w, i32_w]
      rfl
     refine on_ 12 (some 3) ?_
     refine dn_ ?_
     replace HS := A0_ (Sp.arr (pre := [Res.row kI 2 w.heap.size (.slice AL (([wrap64 (12 + (r1 : Int)), wrap64 (12 + (r2 : Int))] : List Int)).length cL) ([wrap64 (12 + (r1 : Int)), wrap64 (12 + (r2 : Int))] : List Int), Res.row kI 2 b0 (.slice Aw way.length cw) way, Res.row kC 94 b0 v2_ oo, Res.blk gb #[.slice A pp.length c] 26, srcR wq g code pA13 sA13, asR A pp, Res.blk gr #[.slice A pp.length c] 26]) (pre' := [Res.row kI 2 w.heap.size (.slice AL (([wrap64 (12 + (r1 : Int)), wrap64 (12 + (r2 : Int))] : List Int)).length cL) ([wrap64 (12 + (r1 : Int)), wrap64 (12 + (r2 : Int))] : List Int), asR A pp, Res.row kI 2 b0 (.slice Aw way.length cw) way, Res.row kC 94 b0 v2_ oo, Res.blk gb #[.slice A pp.length c] 26, srcR wq g code pA13 sA13, Res.blk gr #[.slice A pp.length c] 26]) (rest := ([] : List Res)) [0, 5, 1, 2, 3, 4, 6] HS.out rfl rfl)
     have hk2 : k3 ≤ 2 := by have := HB_k3.out; omega
     have hl : (([wrap64 (12 + (r1 : Int)), wrap64 (12 + (r2 : Int))] : List Int).take k3).length = k3 := by rw [List.length_take]; simp only [List.length_cons, List.length_nil]; omega
     try go_wp2
     (try simp only [Exit.inBlock, Exit.then]); refine bodyPost_ret (results_ct rfl _ _ gr 26 #[.slice A pp.length c] (0, 0) _ rfl (Sp.blk HS.out (i := 6) rfl).1 Try.underlying26 rfl (by kernel_rfl)) rfl ?_
     exact ⟨A, c, pp, AL, cL, ([wrap64 (12 + (r1 : Int)), wrap64 (12 + (r2 : Int))] : List Int).take k3, by rw [hl]; rfl, HZ.out, HCP.out, ⟨by rw [hl]; have := HCL.out; omega, by rw [hl]; omega, fun m hm => by
      have := List.mem_of_mem_take hm
      simp only [List.mem_cons, List.not_mem_nil, or_false] at this
      rcases this with rfl | rfl <;> exact wrap_top _⟩, Sp.out (Sp.out (Sp.out (Sp.out (Sp.out (Sp.swap (Sp.wayTake HS.out k3 hk2)) 2) 2) 2) 2) 2⟩
  | false =>
   replace HS := A0_ (Sp.app H0.out HS.out)
   have HB0 := A0_ (HB.out rfl)
   clear HB H0
   have hg0 := (cl_ HS 2 0 rfl).trans rfl
   go_wp2_with (first
    | ((with_reducible refine gate_store (t := 26) (p := 2) rfl ?_); refine store_event rfl rfl rfl (exec_store (v := .pointer (some ⟨gr, 0, none⟩)) (u := (.agg #[.slice A pp.length c])) rfl ?hp ?hx (Sp.blkStore HS.out (i := 5) rfl ((.agg #[.slice A pp.length c])) (#[.slice A pp.length c]) rfl rfl (by kernel_rfl) (by first | (simp; done) | (simp [Value.oneCell']; done) | (simp; exact ⟨rfl, rfl, rfl⟩)))) ?_; (case hp => first | rfl | (go_simp; done) | (go_simp; rfl)); (case hx => first | rfl | (go_simp; done) | (go_simp; rfl)); intro ws_ hw_; have HS_ := A0_ (Sp.blkAll HS.out (i := 5) rfl (#[.slice A pp.length c]) rfl); rw [← hw_] at HS_; clear HS hw_; have HS := HS_; clear HS_))
   (try simp only [Exit.inBlock, Exit.then]); refine bodyPost_ret (results_ct rfl _ _ gr 26 #[.slice A pp.length c] (0, 0) _ rfl (Sp.blk HS.out (i := 5) rfl).1 Try.underlying26 rfl (by kernel_rfl)) rfl ?_
   have hcw := (Sp.reads HS.out (i := 0) rfl).2.1
   replace HS := A0_ (Sp.arr (pre := [Res.row kI 2 b0 (.slice Aw way.length cw) way, Res.row kC 94 b0 v2_ oo, Res.blk gb #[.slice A pp.length c] 26, srcR wq g code p s, asR A pp, Res.blk gr #[.slice A pp.length c] 26]) (pre' := [Res.row kI 2 b0 (.slice Aw way.length cw) way, asR A pp, Res.row kC 94 b0 v2_ oo, Res.blk gb #[.slice A pp.length c] 26, srcR wq g code p s, Res.blk gr #[.slice A pp.length c] 26]) (rest := ([] : List Res)) [0, 4, 1, 2, 3, 5] HS.out rfl rfl)
   exact ⟨A, c, pp, Aw, cw, way, rfl, HZ.out, HCP.out, ⟨hcw, HWL.out, HWM.out HB0.out⟩, Sp.out (Sp.out (Sp.out (Sp.out (Sp.swap (Sp.wayIn HS.out (i := 0) rfl)) 2) 2) 2) 2⟩
end Go.Proofs.Ytcobnlilmihjfaa.A

namespace Go.Proofs.Ytcobnlilmihjfaa.A
open Go.RowKit Go.Proofs.YtcobnlilmihjfaaW.PrintWords Go.Proofs.YtcobnlilmihjfaaW.PrintLast Go.Proofs.YtcobnlilmihjfaaW.PrintMore
set_option linter.unusedVariables false
set_option linter.unusedSimpArgs false
section
attribute [local go_sem] max2_int min2_int max_two min_two max_three min_three max_four min_four
attribute [local go_sem high] eqA94
def laws_likeCubes.l0 : Nat → List (S94) → List (S94) → Int → Option (Bool)
  | 0, _, _, _ => none
  | k + 1, x0, x1, x5 => if x5 < (x0.length : Int) then (if 0 ≤ x5 then (if x5 < (x1.length : Int) then (if (!(((rd_T94 x0 x5).f0) == ((rd_T94 x1 x5).f0)) || (!(((rd_T94 x0 x5).f1) == ((rd_T94 x1 x5).f1)) || (!(((rd_T94 x0 x5).f2) == ((rd_T94 x1 x5).f2))))) = true then (some false) else (laws_likeCubes.l0 k x0 x1 (wrap64 (x5 + 1)))) else (none)) else (none)) else (some true)
def laws_likeCubes.f (k : Nat) (l0 : List (S94)) (l1 : List (S94)) : Option (Bool) := if (l0.length : Int) = (l1.length : Int) then (laws_likeCubes.l0 k l0 l1 0) else (some false)
set_option maxHeartbeats 8000000 in
set_option maxRecDepth 100000 in
theorem laws_likeCubes.calls (k : Nat) (A0 : Option Addr) (c0 : Nat) (l0 : List (S94)) (A1 : Option Addr) (c1 : Nat) (l1 : List (S94)) (r : Bool) (w : World) (hr0 : Kd.C k94 w A0 l0.length l0) (hc0 : l0.length ≤ c0) (hr1 : Kd.C k94 w A1 l1.length l1) (hc1 : l1.length ≤ c1) (h : laws_likeCubes.f k l0 l1 = some r) :
    Calls Try.prog 22 #[.slice A0 l0.length c0, .slice A1 l1.length c1] w fun e w' => e = .returned (.bool r) ∧ Drawn0 w w' := by
 (have hu94 := Try.underlying94); (have HR0 := A0_ hr0); (have HC0 := A0_ hc0); clear hr0 hc0; (have HR1 := A0_ hr1); (have HC1 := A0_ hc1); clear hr1 hc1; (have H : (if (l0.length : Int) = (l1.length : Int) then (laws_likeCubes.l0 k l0 l1 0) else (some false)) = some r := h); clear h; (by_cases c3 : (l0.length : Int) = (l1.length : Int))
 ·(rw [if_pos c3] at H); (have c3b0 : ((l0.length : Int) == (l1.length : Int)) = true := beq_iff_eq.mpr c3); (have c3b1 : ((l0.length : Int) != (l1.length : Int)) = false := bne_eq_false_iff_eq.mpr c3); (have c3b2 : (l0.length == l1.length) = true := by first | simpa using c3 | (simp at c3 ⊢; omega)); clear c3; (have H' := A0_ H); clear H; (go_enter Try.func22, Try.ntmps22); go_wp2; (repeat (go_quiet (fail); try go_wp2))
  go_loopg [5] k (fun kq v5 w' => ∃ (x5_1 : Int), v5 = .int .i64 x5_1 ∧ Aside0 (laws_likeCubes.l0 kq l0 l1 x5_1 = some r) ∧ Aside0 (kq ≤ k) ∧ Drawn0 w w')
  case atStart => exact ⟨(0), (by first | rfl | (simp; done) | (simp [*]; done)), H', ⟨Nat.le_refl _⟩, by repeat (first | exact Drawn0.refl _ | apply Drawn0.step)⟩
  case round =>
   clear H'; (try clear c1); (try clear c2); (try clear p2); (try clear c3); (try clear c3b0); (try clear c3b1); (try clear c3b2); (obtain ⟨x5_1, rfl, HA, HK1, ⟨m1, rfl⟩⟩ := hrel)
   cases gk with
   | zero => exact absurd HA.out (by simp [laws_likeCubes.l0])
   | succ k1 =>
    (have H := HA.out); clear HA; (simp only [laws_likeCubes.l0] at H); (by_cases c4 : x5_1 < (l0.length : Int))
    ·(rw [if_pos c4] at H); (have c4b0 : decide (x5_1 < (l0.length : Int)) = true := decide_eq_true c4); clear c4; (by_cases c5 : 0 ≤ x5_1)
     ·(rw [if_pos c5] at H); (have c5b0 : decide (0 ≤ x5_1) = true := decide_eq_true c5); clear c5; (by_cases c6 : x5_1 < (l1.length : Int))
      ·(rw [if_pos c6] at H); (have c6b0 : decide (x5_1 < (l1.length : Int)) = true := decide_eq_true c6); clear c6; (by_cases c7 : (!(((rd_T94 l0 x5_1).f0) == ((rd_T94 l1 x5_1).f0)) || (!(((rd_T94 l0 x5_1).f1) == ((rd_T94 l1 x5_1).f1)) || (!(((rd_T94 l0 x5_1).f2) == ((rd_T94 l1 x5_1).f2))))) = true)
       ·(rw [if_pos c7] at H); (have c7b0 : (!(((rd_T94 l0 x5_1).f0) == ((rd_T94 l1 x5_1).f0)) || (!(((rd_T94 l0 x5_1).f1) == ((rd_T94 l1 x5_1).f1)) || (!(((rd_T94 l0 x5_1).f2) == ((rd_T94 l1 x5_1).f2))))) = true := c7); clear c7; (obtain rfl := Option.some.inj H); (have p551 : 0 ≤ (x5_1 : Int) := of_decide_eq_true as_); (have q551 : x5_1 < (l0.length : Int) := of_decide_eq_true as_); (obtain ⟨ad551, e551, hx551_0, hx551_1, hx551_2⟩ := at_T94 HR0.out x5_1 p551 q551); (cases e551); (replace p551 := eq_true p551); (replace q551 := eq_true q551); (have p552 : 0 ≤ (x5_1 : Int) := of_decide_eq_true as_); (have q552 : x5_1 < (l1.length : Int) := of_decide_eq_true as_); (obtain ⟨ad552, e552, hx552_0, hx552_1, hx552_2⟩ := at_T94 HR1.out x5_1 p552 q552); (cases e552); (replace p552 := eq_true p552); (replace q552 := eq_true q552); go_wp2; (repeat (go_quiet (fail); try go_wp2)); go_ret; (exact ⟨by first | rfl | (simp; done) | (simp [*]; done), by repeat (first | exact Drawn0.refl _ | apply Drawn0.step)⟩)
       ·(rw [if_neg c7] at H); (have c7b0 : (!(((rd_T94 l0 x5_1).f0) == ((rd_T94 l1 x5_1).f0)) || (!(((rd_T94 l0 x5_1).f1) == ((rd_T94 l1 x5_1).f1)) || (!(((rd_T94 l0 x5_1).f2) == ((rd_T94 l1 x5_1).f2))))) = false := by simpa using c7); clear c7; (have H' := A0_ H); clear H; (have p551 : 0 ≤ (x5_1 : Int) := of_decide_eq_true as_); (have q551 : x5_1 < (l0.length : Int) := of_decide_eq_true as_); (obtain ⟨ad551, e551, hx551_0, hx551_1, hx551_2⟩ := at_T94 HR0.out x5_1 p551 q551); (cases e551); (replace p551 := eq_true p551); (replace q551 := eq_true q551); (have p552 : 0 ≤ (x5_1 : Int) := of_decide_eq_true as_); (have q552 : x5_1 < (l1.length : Int) := of_decide_eq_true as_); (obtain ⟨ad552, e552, hx552_0, hx552_1, hx552_2⟩ := at_T94 HR1.out x5_1 p552 q552); (cases e552); (replace p552 := eq_true p552); (replace q552 := eq_true q552); go_wp2; (repeat (go_quiet (fail); try go_wp2)); (go_roundg k1)
        case measure => have := HK1.out; omega
        case rel => exact ⟨(wrap64 (x5_1 + 1)), (by first | rfl | (simp; done) | (simp [*]; done)), H', ⟨by have := HK1.out; omega⟩, by repeat (first | exact Drawn0.refl _ | apply Drawn0.step)⟩
      ·(rw [if_neg c6] at H); (exact absurd H (by simp))
     ·(rw [if_neg c5] at H); (exact absurd H (by simp))
    ·(rw [if_neg c4] at H); (have c4b0 : decide (x5_1 < (l0.length : Int)) = false := decide_eq_false c4); clear c4; (obtain rfl := Option.some.inj H); go_wp2; (repeat (go_quiet (fail); try go_wp2)); go_ret; (exact ⟨by first | rfl | (simp; done) | (simp [*]; done), by repeat (first | exact Drawn0.refl _ | apply Drawn0.step)⟩)
 ·(rw [if_neg c3] at H); (have c3b0 : ((l0.length : Int) == (l1.length : Int)) = false := beq_eq_false_iff_ne.mpr c3); (have c3b1 : ((l0.length : Int) != (l1.length : Int)) = true := bne_iff_ne.mpr c3); (have c3b2 : (l0.length == l1.length) = false := by first | simpa using c3 | (simp at c3 ⊢; omega)); (obtain rfl := Option.some.inj H); (go_enter Try.func22, Try.ntmps22); go_wp2; (repeat (go_quiet (fail); try go_wp2)); go_ret; (exact ⟨by first | rfl | (simp; done) | (simp [*]; done), by repeat (first | exact Drawn0.refl _ | apply Drawn0.step)⟩)
end
section
attribute [local go_sem] max2_int min2_int max_two min_two max_three min_three max_four min_four
def laws_big.f (l0 : List Int) : Option (Bool) := some (decide ((l0.length : Int) > 4096))
set_option maxHeartbeats 8000000 in
set_option maxRecDepth 100000 in
theorem laws_big.calls (A0 : Option Addr) (c0 : Nat) (l0 : List Int) (r : Bool) (w : World) (hr0 : Kd.C (Kd.int .u8) w A0 l0.length l0) (hc0 : l0.length ≤ c0) (h : laws_big.f l0 = some r) :
    Calls Try.prog 7 #[.slice A0 l0.length c0] w fun e w' => e = .returned (.bool r) ∧ Drawn0 w w' := by
 (have HR0 := A0_ hr0); (have HC0 := A0_ hc0); clear hr0 hc0; (have H : (some (decide ((l0.length : Int) > 4096))) = some r := h); clear h; (obtain rfl := Option.some.inj H); (go_enter Try.func7, Try.ntmps7); go_wp2; go_ret; (exact ⟨by first | rfl | (simp; done) | (simp [*]; done), by repeat (first | exact Drawn0.refl _ | apply Drawn0.step)⟩)
end
theorem likeCubes_ev (l : List Cb) (h : l.length ≤ 1048576) : Ev (fun k => laws_likeCubes.f k l l) true := by
 unfold laws_likeCubes.f
 simp only [if_true]
 refine ev_at l.length (fun (_ : Unit) _ => True) true (fun _ i k => laws_likeCubes.l0 k l l i) (fun s hi => ?_) (fun s j hj hi => ?_) () trivial
 ·exact Ev.step (f := fun _ => some true) (fun k => by simp only [laws_likeCubes.l0]; rw [if_neg (by omega)]) (Ev.now _)
 ·refine ⟨(), trivial, fun h2 => Ev.step (fun k => ?_) h2⟩
  simp only [laws_likeCubes.l0, if_true, beq_self_eq_true, Bool.not_true, Bool.or_self, Bool.false_eq_true, if_false]
  rw [if_pos (by omega), if_pos (by omega), wrap_succ j (by omega)]
  first | done | rw [if_pos (by omega)]
theorem big_eq (l : List Int) : laws_big.f l = some (decide ((l.length : Int) > 4096)) := rfl
theorem followX_len {pp : List (List Cb)} {way : List Int} (hl : pp.length ≤ 1048576) : (followX pp way).1.length ≤ 1048576 := by
 unfold followX
 split
 ·unfold followR
  cases h : followF pp way with
  | none => simp
  | some o => have := (follow_near way o h).1; show o.length ≤ 1048576; omega
 ·simp
def lawStF.T15 : Bool × List (List Nat × List Nat) := (true, [([], []), ([], []), ([1], [1]), ([2], [2]), ([3, 3], [3]), ([0, 4], [0, 4]), ([5], [5]), ([6], [6]), ([6], [6]), ([7, 5, 0, 1, 2, 3, 4, 5, 6, 7], [7]), ([8, 9, 0, 1, 2, 3, 4, 5, 6, 7, 8, 9], [8])])
def lawStF.B15 : List Nat := [0, 0, 2, 6, 14, 31, 63, 127, 127, 255, 1023]
theorem lawStF.tab15 : rtab .any (opsOf Try.f4 15) = lawStF.T15 := by kernel_rfl
theorem lawStF.bits15 : waitsOk lawStF.T15.2 lawStF.B15 = true := by kernel_rfl
set_option maxHeartbeats 8000000 in
set_option maxRecDepth 100000 in
theorem lawSt_calls (Ac : Option Addr) (cc : Nat) (code : List Int) (w : World) (hok : ∀ x ∈ code, 0 ≤ x ∧ x ≤ 255) (hC : Kd.C (Kd.int .u8) w Ac code.length code) (hcc : code.length ≤ cc) :
  Calls Try.prog 4 #[.slice Ac code.length cc] w fun e w' => e = .returned (.bool true) ∧ Below w.heap.size w w' := by
 have hu32 := Try.underlying26
 have HS := A0_ (Sp.start w)
 have HC := A0_ hC
 have HCC := A0_ hcc
 obtain ⟨bg, hbg⟩ : ∃ b, b = decide ((code.length : Int) > 4096) := ⟨_, rfl⟩
 have HOK : Aside0 (bg = false → CodeOk code) := A0_ (fun h => ⟨by have : ¬ ((code.length : Int) > 4096) := (by rw [h] at hbg; exact of_decide_eq_false hbg.symm); omega, hok⟩)
 have HBG := A0_ (show laws_big.f code = some bg by rw [big_eq, hbg])
 clear hok hC hcc hbg
 cases bg with
 | true =>
  go_enter Try.func4, Try.ntmps4
  go_wp2_with (first
   | (go_at_call 7; go_loud (refine (laws_big.calls Ac cc code true _ (Kd.C_below HC.out HS.out.below) HCC.out HBG.out).mono ?_; rintro e wc_ ⟨rfl, hd_⟩; replace HS := A0_ (Sp.far HS.out hd_.below); clear hd_)))
  go_ret
  exact ⟨rfl, HS.out.below⟩
 | false =>
  have HOK2 := A0_ (HOK.out rfl)
  clear HOK
  go_enter Try.func4, Try.ntmps4
  go_upto_region 4 with (first
   | (go_at_call 7; go_loud (refine (laws_big.calls Ac cc code false _ (Kd.C_below HC.out HS.out.below) HCC.out HBG.out).mono ?_; rintro e wc_ ⟨rfl, hd_⟩; replace HS := A0_ (Sp.far HS.out hd_.below); clear hd_))
   | (go_at_call 17; go_loud (refine (drawStates_calls Ac cc code _ HOK2.out (Kd.C_below HC.out HS.out.below) HCC.out).mono ?_; rintro e wc_ ⟨A, c, pp, rfl, hz_, hc_, hs_⟩; replace HS := A0_ (Sp.app HS.out hs_); have HZ := A0_ hz_; have HCP := A0_ hc_; clear hz_ hc_ hs_))
   | ((with_reducible refine gate_dst (N := 3) rfl ?_); refine be_ (N := 3) (cs := #[.slice none 0 0]) (t := 26) ?_; intro ga hgb_ wb_ hcb_ hbb_; replace HS := A0_ (Sp.boxed HS.out hgb_ hcb_ hbb_); clear hgb_ hcb_ hbb_)
   | ((with_reducible refine gate_store (t := 26) (p := 3) rfl ?_); refine store_event rfl rfl rfl (exec_store (v := .pointer (some ⟨ga, 0, none⟩)) (u := (.agg #[.slice A pp.length c])) rfl ?hp ?hx (Sp.blkStore HS.out (i := 0) rfl ((.agg #[.slice A pp.length c])) (#[.slice A pp.length c]) rfl rfl (by kernel_rfl) (by first | (simp; done) | (simp [Value.oneCell']; done) | (simp; exact ⟨rfl, rfl, rfl⟩)))) ?_; (case hp => first | rfl | (go_simp; done) | (go_simp; rfl)); (case hx => first | rfl | (go_simp; done) | (go_simp; rfl)); intro ws_ hw_; have HS_ := A0_ (Sp.blkAll HS.out (i := 0) rfl (#[.slice A pp.length c]) rfl); rw [← hw_] at HS_; clear HS hw_; have HS := HS_; clear HS_))
  have HS_ : Aside0 (Sp w ([Res.blk ga #[.slice A pp.length c] 26, asR A pp] ++ ([] : List Res)) _) := HS; clear HS; have HS := HS_; clear HS_
  have hg0 := (cl_ HS 0 0 rfl).trans rfl
  have HSI := A0_ (fun w1 h1 => implSt_calls A c pp w1 h1 HZ.out)
  have HSS := A0_ (fun w1 h1 => specSt_calls A c pp w1 h1 HCP.out HZ.out)
  have hst := states_ok pp
  obtain ⟨ns, cs, hx⟩ : ∃ ns cs, statesS (asmP pp) pp = (ns, cs) := ⟨_, _, rfl⟩
  rw [hx] at HSI HSS hst
  dsimp only at HSI HSS hst
  have HST := A0_ hst
  clear hx hst
  go_upto_region 7 with (first
   | (go_at_call 18; go_loud (refine (HSI.out _ (Sp.rdsP HS.out (i := 1) rfl asR_reads)).mono ?_; rintro e wc_ ⟨rfl, hb_⟩; replace HS := A0_ (Sp.far HS.out hb_); clear hb_; clear HSI hg0; have hg0 := (cl_ HS 0 0 rfl).trans rfl))
   | (go_at_call 19; go_loud (refine (HSS.out _ (Sp.rdsP HS.out (i := 1) rfl asR_reads)).mono ?_; rintro e wc_ ⟨rfl, hb_⟩; replace HS := A0_ (Sp.far HS.out hb_); clear hb_; clear HSS hg0; have hg0 := (cl_ HS 0 0 rfl).trans rfl))
   | (go_at_call 20; go_loud (refine (drawFollow_calls Ac cc code _ HOK2.out (Kd.C_below HC.out HS.out.below) HCC.out).mono ?_; rintro e wc_ ⟨A2, c2, qq, Aw, cw, way, rfl, hz_, hc_, hw_, hs_⟩; replace HS := A0_ (Sp.app HS.out hs_); have HZ2 := A0_ hz_; have HCP2 := A0_ hc_; have HW := A0_ hw_; clear hz_ hc_ hw_ hs_))
   | ((with_reducible refine gate_dst (N := 8) rfl ?_); refine be_ (N := 8) (cs := #[.slice none 0 0]) (t := 26) ?_; intro gb hgb_ wb_ hcb_ hbb_; replace HS := A0_ (Sp.boxed HS.out hgb_ hcb_ hbb_); clear hgb_ hcb_ hbb_)
   | ((with_reducible refine gate_store (t := 26) (p := 8) rfl ?_); refine store_event rfl rfl rfl (exec_store (v := .pointer (some ⟨gb, 0, none⟩)) (u := (.agg #[.slice A2 qq.length c2])) rfl ?hp ?hx (Sp.blkStore HS.out (i := 0) rfl ((.agg #[.slice A2 qq.length c2])) (#[.slice A2 qq.length c2]) rfl rfl (by kernel_rfl) (by first | (simp; done) | (simp [Value.oneCell']; done) | (simp; exact ⟨rfl, rfl, rfl⟩)))) ?_; (case hp => first | rfl | (go_simp; done) | (go_simp; rfl)); (case hx => first | rfl | (go_simp; done) | (go_simp; rfl)); intro ws_ hw_; have HS_ := A0_ (Sp.blkAll HS.out (i := 0) rfl (#[.slice A2 qq.length c2]) rfl); rw [← hw_] at HS_; clear HS hw_; have HS := HS_; clear HS_))
  have HS_ : Aside0 (Sp w ([Res.blk gb #[.slice A2 qq.length c2] 26, asR A2 qq, drWay Aw way, Res.blk ga #[.slice A pp.length c] 26, asR A pp] ++ ([] : List Res)) _) := HS; clear HS; have HS := HS_; clear HS_
  clear hg0
  have hg0 := (cl_ HS 3 0 rfl).trans rfl
  have hb0 := (cl_ HS 0 0 rfl).trans rfl
  have HFI := A0_ (fun w1 h1 h2 => iFollow_calls A2 c2 qq Aw cw way w1 h1 HZ2.out h2 (by have := HW.out.2.1; omega) HW.out.2.2)
  obtain ⟨KF, hKF⟩ := (followX_ev HZ2.out way (by have := HW.out.2.1; omega) HW.out.2.2).rounds
  have hfc := fun h => follow_clear (pp := qq) (way := way) h
  have hfl := followX_len (way := way) HZ2.out.len
  obtain ⟨x, one, hx⟩ : ∃ x one, followX qq way = (x, one) := ⟨_, _, rfl⟩
  rw [hx] at HFI hKF hfc hfl
  dsimp only at HFI hfc hfl
  have HFS := A0_ (fun w1 h1 h2 => spec_FollowWay.calls KF A2 c2 qq Aw cw way x one w1 h1 HCP2.out h2 HW.out.1 hKF)
  obtain ⟨KL, hKL⟩ := (likeCubes_ev x hfl).rounds
  have HKL := A0_ hKL
  have HAC := A0_ (fun (h : one = 0) Ax cx w1 h1 h2 h3 => (show clearR qq x = true from hfc h) ▸ iClear_calls A2 c2 qq Ax cx x w1 h1 HZ2.out h2 h3)
  clear hx hKF hfc hfl hKL
  by_cases co : one = 0
  ·subst co
   have HAD := A0_ (HAC.out rfl)
   clear HAC
   go_upto_region 13 with (first
    | (go_at_call 15; go_loud (refine (HFI.out _ (Sp.rdsP HS.out (i := 1) rfl asR_reads) (Sp.rdsI HS.out (i := 2) rfl drWay_reads)).mono ?_; rintro e wc_ ⟨v_, rfl, hr_, hb_⟩; replace HS := A0_ (Sp.made' HS.out hb_ hr_); obtain ⟨Afa, cfa, rfl⟩ := Kd.R_slice hr_; clear hr_ hb_; clear HFI hg0 hb0; have hg0 := (cl_ HS 4 0 rfl).trans rfl; have hb0 := (cl_ HS 1 0 rfl).trans rfl))
    | (go_at_call 21; go_loud (refine (HFS.out _ (Sp.rdsP HS.out (i := 2) rfl asR_reads) (Sp.rdsI HS.out (i := 3) rfl drWay_reads)).mono ?_; rintro e wc_ ⟨v_, rfl, hr_, hb_⟩; replace HS := A0_ (Sp.made' HS.out hb_ hr_); obtain ⟨Afb, cfb, rfl⟩ := Kd.R_slice hr_; clear hr_ hb_; clear HFS hg0 hb0; have hg0 := (cl_ HS 5 0 rfl).trans rfl; have hb0 := (cl_ HS 2 0 rfl).trans rfl))
    | (go_at_call 22; go_loud (refine (laws_likeCubes.calls KL _ _ x _ _ x true _ (Sp.reads HS.out (i := 1) rfl).2.2 (Sp.reads HS.out (i := 1) rfl).2.1 (Sp.reads HS.out (i := 0) rfl).2.2 (Sp.reads HS.out (i := 0) rfl).2.1 HKL.out).mono ?_; rintro e wc_ ⟨rfl, hb_⟩; replace HS := A0_ (Sp.far HS.out hb_.below); clear hb_; clear HKL hg0 hb0; have hg0 := (cl_ HS 5 0 rfl).trans rfl; have hb0 := (cl_ HS 2 0 rfl).trans rfl))
    | (go_at_call 23; go_loud (refine (HAD.out _ _ _ (Sp.rdsP HS.out (i := 3) rfl asR_reads) (Sp.reads HS.out (i := 1) rfl).2.2 (Sp.reads HS.out (i := 1) rfl).2.1).mono ?_; rintro e wc_ ⟨rfl, hb_⟩; replace HS := A0_ (Sp.far HS.out hb_); clear hb_; clear HAD hg0 hb0; have hg0 := (cl_ HS 5 0 rfl).trans rfl; have hb0 := (cl_ HS 2 0 rfl).trans rfl)))
   by_cases cc0 : cs = 0
   ·subst cc0
    obtain ⟨n, hn, h1, h2, ha⟩ := HST.out rfl
    subst hn
    have HNP := A0_ (show 2 ≤ pp.length ∧ pp.length ≤ 8 by have := (asm_of ha).1; omega)
    have HPM := A0_ (fun Az cz zs (hz : zs = zerosC pp.length) w1 h1 h2 h3 => iMoves_calls A c pp Az cz zs w1 h1 HZ.out h2 h3)
    have HMZ := A0_ (moves_zero ha)
    obtain ⟨M, hM⟩ : ∃ M, M = movesP pp (zerosC pp.length) := ⟨_, rfl⟩
    rw [← hM] at h2 HMZ
    have HMM := A0_ hM
    have n1 : 1 ≤ n := h1
    have n2 : ((1 : Int) ≤ (n : Int)) = True := eq_true (by omega)
    have HLM := A0_ h2
    clear ha h2 hM
    go_wp2
    replace HS := A0_ (Sp.drew HS.out)
    refine start_ (n := 11) (S := fun w' => w'.cell? ⟨ga, 0, none⟩ = some (.slice A pp.length c)) (ds := []) #[false, false, false, false, false, false, false, false, false, false, false] (by kernel_rfl) rfl rfl ((cl_ HS 5 0 rfl).trans rfl) (fun hHeld => ?_)
    refine with_tabW lawStF.tab15 lawStF.bits15 (fun HT_ HW_ => ?_)
    generalize wc_.drew = wD15_ at HS hHeld ⊢
    refine tk_ 0 (some 77) ?_
    refine on_ 1 (some 78) ?_
    refine tk_ 2 (some 79) ?_
    refine on_ 3 (some 80) ?_
    refine o1_ 4 (some 81) (fun K hK => ?_)
    refine Kd.R_make_step kC _ 94 (by rfl) (N := 81) rfl 35 _ _ rfl ((pp.length : Nat) : Int) rfl rfl Try.underlying35 (.agg #[(.int .i64 0), (.int .i64 0), (.int .i64 0)]) 24 info94 rfl (by decide) (by decide) (⟨0, 0, 0⟩ : Cb) (ok := fun _ => True) (okp := fun _ => True) (k94_mkM _ _ _ (⟨0, 0, 0⟩ : Cb)) (fun _ hk => hk) trivial ?h0 ?hl (Below.refl _ _) (Nat.le_refl _) ?_
    (case h0 => omega)
    (case hl => have := HNP.out; omega)
    intro vA11 wA11 ho hb hg_ hn_
    clear hg_ hn_
    rw [Int.toNat_natCast] at ho
    obtain ⟨zs, hxs_⟩ : ∃ xs_, xs_ = List.replicate (pp.length) (⟨0, 0, 0⟩ : Cb) := ⟨_, rfl⟩
    rw [← hxs_] at ho
    have Hzs := A0_ hxs_
    clear hxs_
    replace HS := A0_ (Sp.made' HS.out hb ho)
    clear hb ho
    obtain ⟨AA11, cA11, eA_⟩ := Sp.slice HS.out (i := 0) rfl
    subst eA_
    refine hK.out _ _ ((cl_ HS 6 0 rfl).trans rfl) (fun hHeld => ?_)
    clear hK K
    refine nm_ (some 81) ?_
    refine o1_ 5 (some 82) (fun K hK => ?_)
    refine gs_ Try.func24 #[.agg #[.slice A pp.length c], .slice AA11 zs.length cA11] ?_
    refine (HPM.out _ _ zs Hzs.out _ (Sp.rdsP HS.out (i := 7) rfl asR_reads) (Sp.reads HS.out (i := 0) rfl).2.2 (Sp.reads HS.out (i := 0) rfl).2.1).mono ?_
    rintro e wA12 ⟨v_, rfl, hr_, hb_⟩
    refine ⟨_, rfl, ?_⟩
    have hzz : zs = zerosC pp.length := Hzs.out
    rw [hzz, HMZ.out] at hr_ ⊢
    replace HS := A0_ (Sp.made' HS.out hb_ hr_)
    obtain ⟨Am, cm, rfl⟩ := Kd.R_slice hr_
    clear hr_ hb_ hzz
    refine hK.out _ _ ((cl_ HS 7 0 rfl).trans rfl) (fun hHeld => ?_)
    clear hK K
    refine nm_ (some 82) ?_
    refine on_ 6 (some 76) ?_
    refine on_ 7 (some 83) ?_
    refine on_ 8 (some 84) ?_
    refine on_ 9 (some 14) ?_
    refine on_ 10 (some 15) ?_
    refine dn_ ?_
    by_cases cm : 0 < M.length
    ·have y0 : decide (0 < M.length) = true := decide_eq_true cm
     have y1 : ((0 : Int) < (M.length : Int)) = True := eq_true (by omega)
     have y2 : (0 < M.length) = True := eq_true cm
     have z0 : 1 < n := HLM.out.2 cm
     have z1 : ((1 : Int) < (n : Int)) = True := eq_true (by omega)
     clear cm
     go_wp2
     go_ret
     exact ⟨rfl, HS.out.below⟩
    ·have y0 : decide (0 < M.length) = false := decide_eq_false cm
     have y1 : ((0 : Int) < (M.length : Int)) = False := eq_false (by omega)
     have y2 : (0 < M.length) = False := eq_false cm
     have z0 : ¬ 1 < n := fun h => cm (HLM.out.1 h)
     have z1 : ((1 : Int) < (n : Int)) = False := eq_false (by omega)
     clear cm
     go_wp2
     go_ret
     exact ⟨rfl, HS.out.below⟩
   ·have c0 : (cs == 0) = false := by rw [beq_eq_false_iff_ne]; exact cc0
    have c1 : (cs != 0) = true := by rw [bne_iff_ne]; exact cc0
    have c2 : (cs = 0) = False := eq_false cc0
    clear cc0
    go_wp2
    go_ret
    exact ⟨rfl, HS.out.below⟩
  ·clear HAC
   have o0 : (one == 0) = false := by rw [beq_eq_false_iff_ne]; exact co
   have o1 : (one != 0) = true := by rw [bne_iff_ne]; exact co
   have o2 : (one = 0) = False := eq_false co
   clear co
   go_upto_region 13 with (first
    | (go_at_call 15; go_loud (refine (HFI.out _ (Sp.rdsP HS.out (i := 1) rfl asR_reads) (Sp.rdsI HS.out (i := 2) rfl drWay_reads)).mono ?_; rintro e wc_ ⟨v_, rfl, hr_, hb_⟩; replace HS := A0_ (Sp.made' HS.out hb_ hr_); obtain ⟨Afa, cfa, rfl⟩ := Kd.R_slice hr_; clear hr_ hb_; clear HFI hg0 hb0; have hg0 := (cl_ HS 4 0 rfl).trans rfl; have hb0 := (cl_ HS 1 0 rfl).trans rfl))
    | (go_at_call 21; go_loud (refine (HFS.out _ (Sp.rdsP HS.out (i := 2) rfl asR_reads) (Sp.rdsI HS.out (i := 3) rfl drWay_reads)).mono ?_; rintro e wc_ ⟨v_, rfl, hr_, hb_⟩; replace HS := A0_ (Sp.made' HS.out hb_ hr_); obtain ⟨Afb, cfb, rfl⟩ := Kd.R_slice hr_; clear hr_ hb_; clear HFS hg0 hb0; have hg0 := (cl_ HS 5 0 rfl).trans rfl; have hb0 := (cl_ HS 2 0 rfl).trans rfl))
    | (go_at_call 22; go_loud (refine (laws_likeCubes.calls KL _ _ x _ _ x true _ (Sp.reads HS.out (i := 1) rfl).2.2 (Sp.reads HS.out (i := 1) rfl).2.1 (Sp.reads HS.out (i := 0) rfl).2.2 (Sp.reads HS.out (i := 0) rfl).2.1 HKL.out).mono ?_; rintro e wc_ ⟨rfl, hb_⟩; replace HS := A0_ (Sp.far HS.out hb_.below); clear hb_; clear HKL hg0 hb0; have hg0 := (cl_ HS 5 0 rfl).trans rfl; have hb0 := (cl_ HS 2 0 rfl).trans rfl)))
   by_cases cc0 : cs = 0
   ·subst cc0
    obtain ⟨n, hn, h1, h2, ha⟩ := HST.out rfl
    subst hn
    have HNP := A0_ (show 2 ≤ pp.length ∧ pp.length ≤ 8 by have := (asm_of ha).1; omega)
    have HPM := A0_ (fun Az cz zs (hz : zs = zerosC pp.length) w1 h1 h2 h3 => iMoves_calls A c pp Az cz zs w1 h1 HZ.out h2 h3)
    have HMZ := A0_ (moves_zero ha)
    obtain ⟨M, hM⟩ : ∃ M, M = movesP pp (zerosC pp.length) := ⟨_, rfl⟩
    rw [← hM] at h2 HMZ
    have HMM := A0_ hM
    have n1 : 1 ≤ n := h1
    have n2 : ((1 : Int) ≤ (n : Int)) = True := eq_true (by omega)
    have HLM := A0_ h2
    clear ha h2 hM
    go_wp2
    replace HS := A0_ (Sp.drew HS.out)
    refine start_ (n := 11) (S := fun w' => w'.cell? ⟨ga, 0, none⟩ = some (.slice A pp.length c)) (ds := []) #[false, false, false, false, false, false, false, false, false, false, false] (by kernel_rfl) rfl rfl ((cl_ HS 5 0 rfl).trans rfl) (fun hHeld => ?_)
    refine with_tabW lawStF.tab15 lawStF.bits15 (fun HT_ HW_ => ?_)
    generalize wc_.drew = wD15_ at HS hHeld ⊢
    refine tk_ 0 (some 77) ?_
    refine on_ 1 (some 78) ?_
    refine tk_ 2 (some 79) ?_
    refine on_ 3 (some 80) ?_
    refine o1_ 4 (some 81) (fun K hK => ?_)
    refine Kd.R_make_step kC _ 94 (by rfl) (N := 81) rfl 35 _ _ rfl ((pp.length : Nat) : Int) rfl rfl Try.underlying35 (.agg #[(.int .i64 0), (.int .i64 0), (.int .i64 0)]) 24 info94 rfl (by decide) (by decide) (⟨0, 0, 0⟩ : Cb) (ok := fun _ => True) (okp := fun _ => True) (k94_mkM _ _ _ (⟨0, 0, 0⟩ : Cb)) (fun _ hk => hk) trivial ?h0 ?hl (Below.refl _ _) (Nat.le_refl _) ?_
    (case h0 => omega)
    (case hl => have := HNP.out; omega)
    intro vA11 wA11 ho hb hg_ hn_
    clear hg_ hn_
    rw [Int.toNat_natCast] at ho
    obtain ⟨zs, hxs_⟩ : ∃ xs_, xs_ = List.replicate (pp.length) (⟨0, 0, 0⟩ : Cb) := ⟨_, rfl⟩
    rw [← hxs_] at ho
    have Hzs := A0_ hxs_
    clear hxs_
    replace HS := A0_ (Sp.made' HS.out hb ho)
    clear hb ho
    obtain ⟨AA11, cA11, eA_⟩ := Sp.slice HS.out (i := 0) rfl
    subst eA_
    refine hK.out _ _ ((cl_ HS 6 0 rfl).trans rfl) (fun hHeld => ?_)
    clear hK K
    refine nm_ (some 81) ?_
    refine o1_ 5 (some 82) (fun K hK => ?_)
    refine gs_ Try.func24 #[.agg #[.slice A pp.length c], .slice AA11 zs.length cA11] ?_
    refine (HPM.out _ _ zs Hzs.out _ (Sp.rdsP HS.out (i := 7) rfl asR_reads) (Sp.reads HS.out (i := 0) rfl).2.2 (Sp.reads HS.out (i := 0) rfl).2.1).mono ?_
    rintro e wA12 ⟨v_, rfl, hr_, hb_⟩
    refine ⟨_, rfl, ?_⟩
    have hzz : zs = zerosC pp.length := Hzs.out
    rw [hzz, HMZ.out] at hr_ ⊢
    replace HS := A0_ (Sp.made' HS.out hb_ hr_)
    obtain ⟨Am, cm, rfl⟩ := Kd.R_slice hr_
    clear hr_ hb_ hzz
    refine hK.out _ _ ((cl_ HS 7 0 rfl).trans rfl) (fun hHeld => ?_)
    clear hK K
    refine nm_ (some 82) ?_
    refine on_ 6 (some 76) ?_
    refine on_ 7 (some 83) ?_
    refine on_ 8 (some 84) ?_
    refine on_ 9 (some 14) ?_
    refine on_ 10 (some 15) ?_
    refine dn_ ?_
    by_cases cm : 0 < M.length
    ·have y0 : decide (0 < M.length) = true := decide_eq_true cm
     have y1 : ((0 : Int) < (M.length : Int)) = True := eq_true (by omega)
     have y2 : (0 < M.length) = True := eq_true cm
     have z0 : 1 < n := HLM.out.2 cm
     have z1 : ((1 : Int) < (n : Int)) = True := eq_true (by omega)
     clear cm
     go_wp2
     go_ret
     exact ⟨rfl, HS.out.below⟩
    ·have y0 : decide (0 < M.length) = false := decide_eq_false cm
     have y1 : ((0 : Int) < (M.length : Int)) = False := eq_false (by omega)
     have y2 : (0 < M.length) = False := eq_false cm
     have z0 : ¬ 1 < n := fun h => cm (HLM.out.1 h)
     have z1 : ((1 : Int) < (n : Int)) = False := eq_false (by omega)
     clear cm
     go_wp2
     go_ret
     exact ⟨rfl, HS.out.below⟩
   ·have c0 : (cs == 0) = false := by rw [beq_eq_false_iff_ne]; exact cc0
    have c1 : (cs != 0) = true := by rw [bne_iff_ne]; exact cc0
    have c2 : (cs = 0) = False := eq_false cc0
    clear cc0
    go_wp2
    go_ret
    exact ⟨rfl, HS.out.below⟩
open Classical in
noncomputable def laws_FnStates.f (k : Nat) (l : List Int) : Option Bool := if ∀ x ∈ l, 0 ≤ x ∧ x ≤ 255 then some true else none
theorem laws_FnStates.calls (k : Nat) (A0_0 : Option Addr) (c0_0 : Nat) (l0_0 : List Int) (r : Bool) (w : World) (hr0_0 : Kd.C (Kd.int .u8) w A0_0 l0_0.length l0_0) (hc0_0 : l0_0.length ≤ c0_0) (h : laws_FnStates.f k l0_0 = some r) :
  Calls Try.prog 4 #[.slice A0_0 l0_0.length c0_0] w fun e w' => e = .returned (.bool r) ∧ Below w.heap.size w w' := by
 unfold laws_FnStates.f at h
 split at h
 case isFalse => cases h
 rename_i hok
 obtain rfl := Option.some.inj h
 exact lawSt_calls A0_0 c0_0 l0_0 w hok hr0_0 hc0_0
end Go.Proofs.Ytcobnlilmihjfaa.A
/- Arguments of a law opened as plain data, kind by kind: what can be read at a type is a value of its kind. -/
namespace Go.Proofs.Ytcobnlilmihjfaa.Opn
open Go.RowKit Go.Proofs.YtcobnlilmihjfaaW.PrintWords
def Op {α : Type} (P : Program) (t : TypeId) (d : Kd α) (ok : α → Prop) : Prop :=
 ∀ (H : Type) (enc : TypeId × Value → H) (W : World) (fuel : Nat) (cs : List Value) (x : DataW H × List MemPlace),
  DataW.trod enc P W 0 (fun _ => true) true fuel t cs = some x → ∃ a : α, d.K W a cs ∧ ok a
def OpF {α : Type} (P : Program) (o : Nat) (fs : List Field) (d : Kd α) (ok : α → Prop) : Prop :=
 ∀ (H : Type) (enc : TypeId × Value → H) (W : World) (fuel : Nat) (cs : List Value) (xs : List (DataW H × List MemPlace)), cs.length = o + d.sz →
  xs.length = fs.length → (∀ (i : Nat) (f : Field), fs[i]? = some f → DataW.trod enc P W 0 (fun _ => true) true fuel f.type ((cs.drop f.offset).take (P.cellsOf f.type)) = xs[i]?) → ∃ a : α, d.K W a (cs.drop o) ∧ ok a
def okInt (k : IntKind) (n : Int) : Prop := (Lit.int k n).wf = true
def okAll {α : Type} (ok : α → Prop) (l : List α) : Prop := l.length ≤ maxLen ∧ ∀ x ∈ l, ok x
def okTwo {α β : Type} (ok : α → Prop) (ok' : β → Prop) (x : α × β) : Prop := ok x.1 ∧ ok' x.2
theorem Op.int {P : Program} {t : TypeId} {k : IntKind} (ht : P.underlying t = some (.int k)) : Op P t (Kd.int k) (okInt k) := by
 intro H enc W fuel cs x h
 obtain ⟨n, rfl, _, hw⟩ := DataW.trod_int ht h
 exact ⟨n, rfl, hw⟩
theorem Op.bool {P : Program} {t : TypeId} (ht : P.underlying t = some .bool) : Op P t Kd.bool (fun _ => True) := by
 intro H enc W fuel cs x h
 obtain ⟨b, rfl, _⟩ := DataW.trod_bool ht h
 exact ⟨b, rfl, trivial⟩
theorem Op.iso {α β : Type} {P : Program} {t : TypeId} {d : Kd α} {ok : α → Prop} (h : Op P t d ok) (f : β → α) (g : α → β) (hfg : ∀ a, f (g a) = a) : Op P t (Kd.iso d f) (fun b => ok (f b)) := by
 intro H enc W fuel cs x hx
 obtain ⟨a, ha, hok⟩ := h H enc W fuel cs x hx
 refine ⟨g a, ?_, ?_⟩
 ·show d.K W (f (g a)) cs
  rw [hfg]
  exact ha
 ·show ok (f (g a))
  rw [hfg]
  exact hok
theorem list_of_lt {α : Type} {p : Nat → α → Prop} : ∀ n, (∀ i, i < n → ∃ a, p i a) → ∃ l : List α, l.length = n ∧ ∀ i a, l[i]? = some a → p i a
 | 0, _ => ⟨[], rfl, fun i a h => by simp at h⟩
 | n + 1, h => by
  obtain ⟨l, hl, hp⟩ := list_of_lt n (fun i hi => h i (by omega))
  obtain ⟨a, ha⟩ := h n (by omega)
  refine ⟨l ++ [a], by simp [hl], fun i b hb => ?_⟩
  by_cases hi : i < l.length
  ·rw [List.getElem?_append_left hi] at hb
   exact hp i b hb
  ·have hlt : i < (l ++ [a]).length := (List.getElem?_eq_some_iff.1 hb).1
   simp at hlt
   have : i = l.length := by omega
   subst this
   have hab : a = b := by simpa using hb
   subst hab
   rw [hl]
   exact ha
theorem Op.slice {α : Type} {P : Program} {t e : TypeId} {d : Kd α} {ok : α → Prop} (ht : P.underlying t = some (.slice e)) (hc : P.cellsOf e = d.sz) (h : Op P e d ok) :
  Op P t (Kd.slice e d) (okAll ok) := by
 intro H enc W fuel cs x hx
 rcases Deep.open_slice ht hx with ⟨rfl, _⟩ | ⟨a, len, cap, m, n, D, Pl, rfl, hb, hl, hm, hmm, _, hel⟩
 ·exact ⟨[], ⟨none, 0, rfl, Nat.le_refl _, rfl, by simp, fun h => absurd h (by simp)⟩, by simp [okAll]⟩
 ·rw [if_pos rfl] at hmm
  subst hmm
  obtain ⟨l, hlen, hl2⟩ := list_of_lt (p := fun i (y : α) => (∃ c, c.length = d.sz ∧ d.K W y c ∧ ∀ j u, c[j]? = some u → W.cell? (a.add (i * d.sz + j)) = some u) ∧ ok y) len (fun i hi => by
   obtain ⟨cs', h1, h2⟩ := hel i (by omega)
   obtain ⟨y, hy, hok⟩ := h H enc W n cs' _ h2
   obtain ⟨_, h3, h4⟩ := World.cells?_some h1
   refine ⟨y, ⟨cs', d.K_len hy, hy, fun j u hu => ?_⟩, hok⟩
   have hj : j < P.cellsOf e := by rw [← h3]; exact (List.getElem?_eq_some_iff.1 hu).1
   have h5 := h4 j hj
   rw [← hu, ← h5, hc, Addr.add_add])
  unfold maxLen at hm
  refine ⟨l, ⟨some a, m, by rw [hlen], by omega, rfl, by omega, fun _ => ⟨a, rfl, fun j p hj => (hl2 j p hj).1⟩⟩, by unfold maxLen; omega, fun y hy => ?_⟩
  obtain ⟨i, hi, rfl⟩ := List.getElem_of_mem hy
  exact (hl2 i _ (List.getElem?_eq_getElem hi)).2
theorem OpF.one {α : Type} {P : Program} {o : Nat} {f : Field} {d : Kd α} {ok : α → Prop} (ho : f.offset = o) (hc : P.cellsOf f.type = d.sz) (h : Op P f.type d ok) : OpF P o [f] d ok := by
 intro H enc W fuel cs xs hl hn hx
 match xs, hn with
 | [y], _ =>
 have hy := hx 0 f rfl
 simp only [List.getElem?_cons_zero] at hy
 rw [ho, hc, List.take_of_length_le (by simp; omega)] at hy
 exact h H enc W fuel _ _ hy
theorem OpF.cons {α β : Type} {P : Program} {o : Nat} {f : Field} {fs : List Field} {d : Kd α} {d' : Kd β} {ok : α → Prop} {ok' : β → Prop} (ho : f.offset = o) (hc : P.cellsOf f.type = d.sz) (h : Op P f.type d ok)
  (hr : OpF P (o + d.sz) fs d' ok') : OpF P o (f :: fs) (Kd.pair d d') (okTwo ok ok') := by
 intro H enc W fuel cs xs hl hn hx
 match xs, hn with
 | y :: ys, hn =>
 have hy := hx 0 f rfl
 have hys : ∀ (i : Nat) (f : Field), fs[i]? = some f → DataW.trod enc P W 0 (fun _ => true) true fuel f.type ((cs.drop f.offset).take (P.cellsOf f.type)) = ys[i]? := fun i g hg => by simpa using hx (i + 1) g (by simpa using hg)
 simp only [List.getElem?_cons_zero] at hy
 rw [ho, hc] at hy
 obtain ⟨a, ha, hok⟩ := h H enc W fuel _ _ hy
 obtain ⟨b, hb, hok'⟩ := hr H enc W fuel cs ys (by rw [hl]; show o + (d.sz + d'.sz) = _; omega) (by simpa using hn) hys
 refine ⟨(a, b), ⟨_, _, ?_, ha, hb⟩, hok, hok'⟩
 rw [← List.drop_drop, List.take_append_drop]
theorem Op.struct {α : Type} {P : Program} {t : TypeId} {fs : Array Field} {d : Kd α} {ok : α → Prop} (ht : P.underlying t = some (.struct fs)) (hc : P.cellsOf t = d.sz) (h : OpF P 0 fs.toList d ok) : Op P t d ok := by
 intro H enc W fuel cs x hx
 obtain ⟨xs, n, _, _, hl, hn, hxs⟩ := DataW.trod_struct ht hx
 obtain ⟨a, ha, hok⟩ := h H enc W n cs xs (by omega) (by simpa using hn) (fun i f hf => hxs i f (by simpa using hf))
 exact ⟨a, by simpa using ha, hok⟩
end Go.Proofs.Ytcobnlilmihjfaa.Opn

namespace Go.Proofs.Ytcobnlilmihjfaa.A
open Go.RowKit Go.Proofs.YtcobnlilmihjfaaW.PrintWords Go.Proofs.YtcobnlilmihjfaaW.PrintLast Go.Proofs.YtcobnlilmihjfaaW.PrintMore
set_option linter.unusedVariables false
set_option linter.unusedSimpArgs false
theorem op5 : Go.Proofs.Ytcobnlilmihjfaa.Opn.Op Try.prog 5 (Kd.int .u8) (Go.Proofs.Ytcobnlilmihjfaa.Opn.okInt .u8) := Go.Proofs.Ytcobnlilmihjfaa.Opn.Op.int Try.underlying5
theorem op22 : Go.Proofs.Ytcobnlilmihjfaa.Opn.Op Try.prog 22 (Kd.slice 5 (Kd.int .u8)) (Go.Proofs.Ytcobnlilmihjfaa.Opn.okAll (Go.Proofs.Ytcobnlilmihjfaa.Opn.okInt .u8)) := Go.Proofs.Ytcobnlilmihjfaa.Opn.Op.slice Try.underlying22 (by kernel_rfl) op5
def FnStates.Pure : Prop := ∀ (a0 : List (Int)), (Go.Proofs.Ytcobnlilmihjfaa.Opn.okAll (Go.Proofs.Ytcobnlilmihjfaa.Opn.okInt .u8)) a0 → ∃ k, laws_FnStates.f k a0 = some true
end Go.Proofs.Ytcobnlilmihjfaa.A
/- States: the law's contract answers true. -/
namespace Go.Proofs.Ytcobnlilmihjfaa.Pure
open Go.RowKit Go.Proofs.YtcobnlilmihjfaaW.PrintWords Go.Proofs.YtcobnlilmihjfaaW.PrintLast Go.Proofs.YtcobnlilmihjfaaW.PrintMore Go.Proofs.Ytcobnlilmihjfaa.A
theorem FnStates : Go.Proofs.Ytcobnlilmihjfaa.A.FnStates.Pure := by
  intro a0 hok
  refine ⟨0, ?_⟩
  unfold laws_FnStates.f
  refine if_pos (fun x hx => ?_)
  have := hok.2 x hx
  simp [Opn.okInt, Lit.wf, IntKind.min, IntKind.max, IntKind.bits, IntKind.signed] at this
  omega
end Go.Proofs.Ytcobnlilmihjfaa.Pure

