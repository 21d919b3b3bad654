/- What the row of the law FnTileEdges stands on, part 2. -/
import Derived.Test.YtgcagmmghckbbaaMFnTileEdges1
namespace Go.Proofs.Ytgcagmmghckbbaa.A
open Go.RowKit Go.Proofs.YtgcagmmghckbbaaW.PrintWords Go.Proofs.YtgcagmmghckbbaaW.PrintLast Go.Proofs.YtgcagmmghckbbaaW.PrintMore
attribute [local go_sem] max2_int min2_int max_two min_two max_three min_three max_four min_four   -- for this text's walks alone
set_option linter.unusedVariables false
set_option linter.unusedSimpArgs false

mutual
def spec_l30Draw.l0 : Nat → Int → Int → Int → List (S24) → Int → List Int → Int → Int → Option ((List (S24)) × Int × Int × Int × Int)
  | 0, _, _, _, _, _, _, _, _ => none
  | k + 1, x6, x7, x8, x9, x10, x1000, x1001, x1002 => if x10 < (wrap64 (x6 * x7)) then (if x6 = 0 then (none) else (if (Int.tmod x10 x6) > 0 then (if 0 ≤ (wrap64 (x10 - 1)) then (if (wrap64 (x10 - 1)) < (x9.length : Int) then (spec_l30Draw.j1 k x6 x7 x8 x9 x10 x1000 x1001 x1002 0 0 0 (wrap64 (-((rd_T24 x9 (wrap64 (x10 - 1))).f1)))) else (none)) else (none)) else (spec_l30Draw.j1 k x6 x7 x8 x9 x10 x1000 x1001 x1002 0 0 0 0))) else (spec_l30Draw.l1 k x6 x7 x9 (([] : List (S24))) 0 x1000 x1001 x1002)
def spec_l30Draw.j1 : Nat → Int → Int → Int → List (S24) → Int → List Int → Int → Int → Int → Int → Int → Int → Option ((List (S24)) × Int × Int × Int × Int)
  | 0, _, _, _, _, _, _, _, _, _, _, _, _ => none
  | k + 1, x6, x7, x8, x9, x10, x1000, x1001, x1002, x326000, x326001, x326002, x326003 => if x10 ≥ x6 then (if 0 ≤ (wrap64 (x10 - x6)) then (if (wrap64 (x10 - x6)) < (x9.length : Int) then (spec_l30Draw.j2 k x6 x7 x8 x9 x10 x1000 x1001 x1002 (wrap64 (-((rd_T24 x9 (wrap64 (x10 - x6))).f2))) x326001 x326002 x326003) else (none)) else (none)) else (spec_l30Draw.j2 k x6 x7 x8 x9 x10 x1000 x1001 x1002 x326000 x326001 x326002 x326003)
def spec_l30Draw.j2 : Nat → Int → Int → Int → List (S24) → Int → List Int → Int → Int → Int → Int → Int → Int → Option ((List (S24)) × Int × Int × Int × Int)
  | 0, _, _, _, _, _, _, _, _, _, _, _, _ => none
  | k + 1, x6, x7, x8, x9, x10, x1000, x1001, x1002, x326000, x326001, x326002, x326003 => if x6 = 0 then (none) else (if (Int.tmod x10 x6) < (wrap64 (x6 - 1)) then ((spec_l01Next.f x1000 x1001 x1002 x8).bind fun bt328 => ((spec_l01Next.f x1000 bt328.2.1 bt328.2.2 2).bind fun bt331 => (spec_l30Draw.j3 k x6 x7 x8 x9 x10 x1000 bt331.2.1 bt331.2.2 x326000 (wrap64 ((wrap64 (1 + bt328.1)) * (wrap64 (1 - (wrap64 (2 * bt331.1)))))) x326002 x326003))) else (spec_l30Draw.j3 k x6 x7 x8 x9 x10 x1000 x1001 x1002 x326000 x326001 x326002 x326003))
def spec_l30Draw.j3 : Nat → Int → Int → Int → List (S24) → Int → List Int → Int → Int → Int → Int → Int → Int → Option ((List (S24)) × Int × Int × Int × Int)
  | 0, _, _, _, _, _, _, _, _, _, _, _, _ => none
  | k + 1, x6, x7, x8, x9, x10, x1000, x1001, x1002, x326000, x326001, x326002, x326003 => if (wrap64 (x10 + x6)) < (wrap64 (x6 * x7)) then ((spec_l01Next.f x1000 x1001 x1002 x8).bind fun bt334 => ((spec_l01Next.f x1000 bt334.2.1 bt334.2.2 2).bind fun bt337 => (if x9.length < 4398046511104 then (spec_l30Draw.l0 k x6 x7 x8 (x9 ++ [(⟨x326000, x326001, wrap64 ((wrap64 (1 + bt334.1)) * (wrap64 (1 - (wrap64 (2 * bt337.1))))), x326003⟩ : S24)]) (wrap64 (x10 + 1)) x1000 bt337.2.1 bt337.2.2) else (none)))) else (if x9.length < 4398046511104 then (spec_l30Draw.l0 k x6 x7 x8 (x9 ++ [(⟨x326000, x326001, x326002, x326003⟩ : S24)]) (wrap64 (x10 + 1)) x1000 x1001 x1002) else (none))
def spec_l30Draw.l1 : Nat → Int → Int → List (S24) → List (S24) → Int → List Int → Int → Int → Option ((List (S24)) × Int × Int × Int × Int)
  | 0, _, _, _, _, _, _, _, _ => none
  | k + 1, x6, x7, x9, x12, x13, x1000, x1001, x1002 => if x13 < (x9.length : Int) then ((spec_l01Next.f x1000 x1001 x1002 (wrap64 ((x12.length : Int) + 1))).bind fun bt349 => ((some (([] : List (S24)) : List (S24))).bind fun y352 => (if 0 ≤ bt349.1 then (if bt349.1 ≤ (x12.length : Int) then ((some (x12.take (bt349.1 : Int).toNat : List (S24))).bind fun y355 => (if y352.length + y355.length < 4398046511104 then ((some (y352 ++ y355 : List (S24))).bind fun y359 => (if 0 ≤ x13 then ((spec_l01Next.f x1000 bt349.2.1 bt349.2.2 4).bind fun bt363 => ((spec_l30Turn.f ((rd_T24 x9 x13).f0) ((rd_T24 x9 x13).f1) ((rd_T24 x9 x13).f2) ((rd_T24 x9 x13).f3) bt363.1).bind fun bt366 => (if y359.length < 4398046511104 then ((some (y359 ++ [(⟨bt366.1, bt366.2.1, bt366.2.2.1, bt366.2.2.2⟩ : S24)] : List (S24))).bind fun y370 => ((some (x12.drop (bt349.1 : Int).toNat : List (S24))).bind fun y373 => (if y370.length + y373.length < 4398046511104 then (spec_l30Draw.l1 k x6 x7 x9 (y370 ++ y373) (wrap64 (x13 + 1)) x1000 bt363.2.1 bt363.2.2) else (none)))) else (none)))) else (none))) else (none))) else (none)) else (none)))) else ((spec_l01Next.f x1000 x1001 x1002 (x12.length : Int)).bind fun bt380 => ((spec_l01Next.f x1000 bt380.2.1 bt380.2.2 16).bind fun bt383 => (if bt383.1 = 0 then ((some (([(-10), 9, 10] : List Int) : List Int)).bind fun y386 => ((spec_l01Next.f x1000 bt383.2.1 bt383.2.2 3).bind fun bt389 => (if 0 ≤ bt389.1 then (if bt389.1 < (y386.length : Int) then (if 0 ≤ bt380.1 then (if bt380.1 < (x12.length : Int) then (some ((x12.set (bt380.1 : Int).toNat (⟨rd y386 bt389.1, (rd_T24 x12 bt380.1).f1, (rd_T24 x12 bt380.1).f2, (rd_T24 x12 bt380.1).f3⟩ : S24)), x6, x7, bt389.2.1, bt389.2.2)) else (none)) else (none)) else (none)) else (none)))) else (if bt383.1 = 1 then (if 1 ≤ (x12.length : Int) then (some ((x12.drop (1 : Int).toNat), x6, x7, bt383.2.1, bt383.2.2)) else (none)) else (if bt383.1 = 2 then (if 0 ≤ bt380.1 then (if bt380.1 < (x12.length : Int) then (some ((x12.set (bt380.1 : Int).toNat (⟨(rd_T24 x12 bt380.1).f0, (rd_T24 x12 bt380.1).f1, (rd_T24 x12 bt380.1).f2, wrap64 (((rd_T24 x12 bt380.1).f3) + 1)⟩ : S24)), x6, x7, bt383.2.1, bt383.2.2)) else (none)) else (none)) else (if bt383.1 = 3 then (some (x12, wrap64 (x6 + 1), x7, bt383.2.1, bt383.2.2)) else (if bt383.1 = 4 then (if 0 ≤ bt380.1 then (if bt380.1 < (x12.length : Int) then (some ((x12.set (bt380.1 : Int).toNat (⟨(rd_T24 x12 bt380.1).f0, (rd_T24 x12 bt380.1).f1, wrap64 (-((rd_T24 x12 bt380.1).f2)), (rd_T24 x12 bt380.1).f3⟩ : S24)), x6, x7, bt383.2.1, bt383.2.2)) else (none)) else (none)) else (some (x12, x6, x7, bt383.2.1, bt383.2.2)))))))))
end
def spec_l30Draw.f (k : Nat) (s0_0 : List Int) (s0_1 : Int) (s0_2 : Int) : Option ((List (S24)) × Int × Int × Int × Int) := (some (([(([2, 2] : List Int)), (([3, 2] : List Int)), (([2, 3] : List Int)), (([3, 3] : List Int)), (([1, 3] : List Int)), (([4, 2] : List Int)), (([1, 1] : List Int)), (([3, 4] : List Int))] : List (List Int)) : List (List Int))).bind fun y310 => ((spec_l01Next.f s0_0 s0_1 s0_2 8).bind fun bt313 => (if 0 ≤ bt313.1 then (if bt313.1 < (y310.length : Int) then (if 0 < ((rd_L4 y310 bt313.1).length : Int) then (if 1 < ((rd_L4 y310 bt313.1).length : Int) then ((spec_l01Next.f s0_0 bt313.2.1 bt313.2.2 4).bind fun bt319 => (spec_l30Draw.l0 k (rd (rd_L4 y310 bt313.1) 0) (rd (rd_L4 y310 bt313.1) 1) (wrap64 (1 + bt319.1)) (([] : List (S24))) 0 s0_0 bt319.2.1 bt319.2.2)) else (none)) else (none)) else (none)) else (none)))
def spec_l30Draw.T2 : Bool × List (List Nat × List Nat) := (true, [([], []), ([0], [0]), ([1], [1]), ([], []), ([3], [3]), ([4], [4]), ([2, 0, 1, 2], [2]), ([5, 6, 0, 1, 2, 3, 4, 5, 6], [5])])
def spec_l30Draw.B2 : List Nat := [0, 1, 3, 0, 8, 24, 7, 127]
theorem spec_l30Draw.tab2 : rtab .any (opsOf Try.f73 2) = spec_l30Draw.T2 := by kernel_rfl
theorem spec_l30Draw.bits2 : waitsOk spec_l30Draw.T2.2 spec_l30Draw.B2 = true := by kernel_rfl
def spec_l30Draw.T23 : Bool × List (List Nat × List Nat) := (true, [([], []), ([], []), ([], []), ([1, 2], [1, 2]), ([0, 3], [0, 3]), ([], []), ([], []), ([5, 6], [5, 6]), ([7], [7]), ([], []), ([9, 4], [9]), ([8, 10, 10], [8, 10]), ([11], [11]), ([4, 12, 11], [4, 12]), ([], []), ([], []), ([14, 15], [14, 15]), ([13, 16, 13], [13, 16]), ([17, 17, 0, 1, 2, 3, 4, 5, 6, 7, 8, 9, 10, 11, 12, 13, 14, 15, 16, 17], [1, 14, 17])])
def spec_l30Draw.B23 : List Nat := [0, 0, 0, 6, 15, 0, 0, 96, 224, 0, 543, 2047, 4095, 8191, 0, 0, 49152, 131071, 262143]
theorem spec_l30Draw.tab23 : rtab .any (opsOf Try.f73 23) = spec_l30Draw.T23 := by kernel_rfl
theorem spec_l30Draw.bits23 : waitsOk spec_l30Draw.T23.2 spec_l30Draw.B23 = true := by kernel_rfl
set_option maxHeartbeats 8000000 in
set_option maxRecDepth 100000 in
theorem spec_l30Draw.calls (k : Nat) (g : Nat) (s0_0 : List Int) (s0_1 : Int) (s0_2 : Int) (r1 : List (S24)) (r2 : Int) (r3 : Int) (r4 : Int) (r5 : Int) (w0 w : World) (hI : IsS102 w0 w g s0_0 s0_1 s0_2) (hB : Below w0.heap.size w0 w) (h : spec_l30Draw.f k s0_0 s0_1 s0_2 = some (r1, r2, r3, r4, r5)) :
    Calls Try.prog 73 #[.pointer (some ⟨g, 0, none⟩)] w fun e w' => ∃ v0_ : Value, e = .returned (.tuple #[v0_, .int .i64 r2, .int .i64 r3]) ∧ Kd.Q k24 24 w' w.heap.size (fun _ => True) v0_ r1 ∧ IsS102 w0 w' g s0_0 r4 r5 ∧ Below w0.heap.size w0 w' ∧ KeepBut w w' g none := by
  have hu24 := Try.underlying24
  have HI0 := Aside0.mk hI
  have HK := Aside0.mk (KeepBut.refl w g none)
  have HL := Aside0.mk hB.size
  clear hI
  have HW0 := Aside0.mk hB.size
  have HB := Aside0.mk hB
  clear hB
  have H : ((some (([(([2, 2] : List Int)), (([3, 2] : List Int)), (([2, 3] : List Int)), (([3, 3] : List Int)), (([1, 3] : List Int)), (([4, 2] : List Int)), (([1, 1] : List Int)), (([3, 4] : List Int))] : List (List Int)) : List (List Int))).bind fun y310 => ((spec_l01Next.f s0_0 s0_1 s0_2 8).bind fun bt313 => (if 0 ≤ bt313.1 then (if bt313.1 < (y310.length : Int) then (if 0 < ((rd_L4 y310 bt313.1).length : Int) then (if 1 < ((rd_L4 y310 bt313.1).length : Int) then ((spec_l01Next.f s0_0 bt313.2.1 bt313.2.2 4).bind fun bt319 => (spec_l30Draw.l0 k (rd (rd_L4 y310 bt313.1) 0) (rd (rd_L4 y310 bt313.1) 1) (wrap64 (1 + bt319.1)) (([] : List (S24))) 0 s0_0 bt319.2.1 bt319.2.2)) else (none)) else (none)) else (none)) else (none)))) = some (r1, r2, r3, r4, r5) := h
  clear h
  obtain ⟨y286, hy286⟩ : ∃ y_ : List Int, y_ = (([2, 2] : List Int)) := ⟨_, rfl⟩
  replace H : ((some (([y286, (([3, 2] : List Int)), (([2, 3] : List Int)), (([3, 3] : List Int)), (([1, 3] : List Int)), (([4, 2] : List Int)), (([1, 1] : List Int)), (([3, 4] : List Int))] : List (List Int)) : List (List Int))).bind fun y310 => ((spec_l01Next.f s0_0 s0_1 s0_2 8).bind fun bt313 => (if 0 ≤ bt313.1 then (if bt313.1 < (y310.length : Int) then (if 0 < ((rd_L4 y310 bt313.1).length : Int) then (if 1 < ((rd_L4 y310 bt313.1).length : Int) then ((spec_l01Next.f s0_0 bt313.2.1 bt313.2.2 4).bind fun bt319 => (spec_l30Draw.l0 k (rd (rd_L4 y310 bt313.1) 0) (rd (rd_L4 y310 bt313.1) 1) (wrap64 (1 + bt319.1)) (([] : List (S24))) 0 s0_0 bt319.2.1 bt319.2.2)) else (none)) else (none)) else (none)) else (none)))) = some (r1, r2, r3, r4, r5) := by first | (rw [hy286]; with_reducible exact H) | (have H2_ := (Option.bind_some _ _).symm.trans H; rw [hy286]; with_reducible exact H2_) | (have H2_ := (Option.bind_some _ _).symm.trans H; with_reducible exact H2_) | with_reducible exact H | (rw [hy286]; exact H) | exact H
  have Ny286 := Aside0.mk hy286
  clear hy286
  obtain ⟨y289, hy289⟩ : ∃ y_ : List Int, y_ = (([3, 2] : List Int)) := ⟨_, rfl⟩
  replace H : ((some (([y286, y289, (([2, 3] : List Int)), (([3, 3] : List Int)), (([1, 3] : List Int)), (([4, 2] : List Int)), (([1, 1] : List Int)), (([3, 4] : List Int))] : List (List Int)) : List (List Int))).bind fun y310 => ((spec_l01Next.f s0_0 s0_1 s0_2 8).bind fun bt313 => (if 0 ≤ bt313.1 then (if bt313.1 < (y310.length : Int) then (if 0 < ((rd_L4 y310 bt313.1).length : Int) then (if 1 < ((rd_L4 y310 bt313.1).length : Int) then ((spec_l01Next.f s0_0 bt313.2.1 bt313.2.2 4).bind fun bt319 => (spec_l30Draw.l0 k (rd (rd_L4 y310 bt313.1) 0) (rd (rd_L4 y310 bt313.1) 1) (wrap64 (1 + bt319.1)) (([] : List (S24))) 0 s0_0 bt319.2.1 bt319.2.2)) else (none)) else (none)) else (none)) else (none)))) = some (r1, r2, r3, r4, r5) := by first | (rw [hy289]; with_reducible exact H) | (have H2_ := (Option.bind_some _ _).symm.trans H; rw [hy289]; with_reducible exact H2_) | (have H2_ := (Option.bind_some _ _).symm.trans H; with_reducible exact H2_) | with_reducible exact H | (rw [hy289]; exact H) | exact H
  have Ny289 := Aside0.mk hy289
  clear hy289
  obtain ⟨y292, hy292⟩ : ∃ y_ : List Int, y_ = (([2, 3] : List Int)) := ⟨_, rfl⟩
  replace H : ((some (([y286, y289, y292, (([3, 3] : List Int)), (([1, 3] : List Int)), (([4, 2] : List Int)), (([1, 1] : List Int)), (([3, 4] : List Int))] : List (List Int)) : List (List Int))).bind fun y310 => ((spec_l01Next.f s0_0 s0_1 s0_2 8).bind fun bt313 => (if 0 ≤ bt313.1 then (if bt313.1 < (y310.length : Int) then (if 0 < ((rd_L4 y310 bt313.1).length : Int) then (if 1 < ((rd_L4 y310 bt313.1).length : Int) then ((spec_l01Next.f s0_0 bt313.2.1 bt313.2.2 4).bind fun bt319 => (spec_l30Draw.l0 k (rd (rd_L4 y310 bt313.1) 0) (rd (rd_L4 y310 bt313.1) 1) (wrap64 (1 + bt319.1)) (([] : List (S24))) 0 s0_0 bt319.2.1 bt319.2.2)) else (none)) else (none)) else (none)) else (none)))) = some (r1, r2, r3, r4, r5) := by first | (rw [hy292]; with_reducible exact H) | (have H2_ := (Option.bind_some _ _).symm.trans H; rw [hy292]; with_reducible exact H2_) | (have H2_ := (Option.bind_some _ _).symm.trans H; with_reducible exact H2_) | with_reducible exact H | (rw [hy292]; exact H) | exact H
  have Ny292 := Aside0.mk hy292
  clear hy292
  obtain ⟨y295, hy295⟩ : ∃ y_ : List Int, y_ = (([3, 3] : List Int)) := ⟨_, rfl⟩
  replace H : ((some (([y286, y289, y292, y295, (([1, 3] : List Int)), (([4, 2] : List Int)), (([1, 1] : List Int)), (([3, 4] : List Int))] : List (List Int)) : List (List Int))).bind fun y310 => ((spec_l01Next.f s0_0 s0_1 s0_2 8).bind fun bt313 => (if 0 ≤ bt313.1 then (if bt313.1 < (y310.length : Int) then (if 0 < ((rd_L4 y310 bt313.1).length : Int) then (if 1 < ((rd_L4 y310 bt313.1).length : Int) then ((spec_l01Next.f s0_0 bt313.2.1 bt313.2.2 4).bind fun bt319 => (spec_l30Draw.l0 k (rd (rd_L4 y310 bt313.1) 0) (rd (rd_L4 y310 bt313.1) 1) (wrap64 (1 + bt319.1)) (([] : List (S24))) 0 s0_0 bt319.2.1 bt319.2.2)) else (none)) else (none)) else (none)) else (none)))) = some (r1, r2, r3, r4, r5) := by first | (rw [hy295]; with_reducible exact H) | (have H2_ := (Option.bind_some _ _).symm.trans H; rw [hy295]; with_reducible exact H2_) | (have H2_ := (Option.bind_some _ _).symm.trans H; with_reducible exact H2_) | with_reducible exact H | (rw [hy295]; exact H) | exact H
  have Ny295 := Aside0.mk hy295
  clear hy295
  obtain ⟨y298, hy298⟩ : ∃ y_ : List Int, y_ = (([1, 3] : List Int)) := ⟨_, rfl⟩
  replace H : ((some (([y286, y289, y292, y295, y298, (([4, 2] : List Int)), (([1, 1] : List Int)), (([3, 4] : List Int))] : List (List Int)) : List (List Int))).bind fun y310 => ((spec_l01Next.f s0_0 s0_1 s0_2 8).bind fun bt313 => (if 0 ≤ bt313.1 then (if bt313.1 < (y310.length : Int) then (if 0 < ((rd_L4 y310 bt313.1).length : Int) then (if 1 < ((rd_L4 y310 bt313.1).length : Int) then ((spec_l01Next.f s0_0 bt313.2.1 bt313.2.2 4).bind fun bt319 => (spec_l30Draw.l0 k (rd (rd_L4 y310 bt313.1) 0) (rd (rd_L4 y310 bt313.1) 1) (wrap64 (1 + bt319.1)) (([] : List (S24))) 0 s0_0 bt319.2.1 bt319.2.2)) else (none)) else (none)) else (none)) else (none)))) = some (r1, r2, r3, r4, r5) := by first | (rw [hy298]; with_reducible exact H) | (have H2_ := (Option.bind_some _ _).symm.trans H; rw [hy298]; with_reducible exact H2_) | (have H2_ := (Option.bind_some _ _).symm.trans H; with_reducible exact H2_) | with_reducible exact H | (rw [hy298]; exact H) | exact H
  have Ny298 := Aside0.mk hy298
  clear hy298
  obtain ⟨y301, hy301⟩ : ∃ y_ : List Int, y_ = (([4, 2] : List Int)) := ⟨_, rfl⟩
  replace H : ((some (([y286, y289, y292, y295, y298, y301, (([1, 1] : List Int)), (([3, 4] : List Int))] : List (List Int)) : List (List Int))).bind fun y310 => ((spec_l01Next.f s0_0 s0_1 s0_2 8).bind fun bt313 => (if 0 ≤ bt313.1 then (if bt313.1 < (y310.length : Int) then (if 0 < ((rd_L4 y310 bt313.1).length : Int) then (if 1 < ((rd_L4 y310 bt313.1).length : Int) then ((spec_l01Next.f s0_0 bt313.2.1 bt313.2.2 4).bind fun bt319 => (spec_l30Draw.l0 k (rd (rd_L4 y310 bt313.1) 0) (rd (rd_L4 y310 bt313.1) 1) (wrap64 (1 + bt319.1)) (([] : List (S24))) 0 s0_0 bt319.2.1 bt319.2.2)) else (none)) else (none)) else (none)) else (none)))) = some (r1, r2, r3, r4, r5) := by first | (rw [hy301]; with_reducible exact H) | (have H2_ := (Option.bind_some _ _).symm.trans H; rw [hy301]; with_reducible exact H2_) | (have H2_ := (Option.bind_some _ _).symm.trans H; with_reducible exact H2_) | with_reducible exact H | (rw [hy301]; exact H) | exact H
  have Ny301 := Aside0.mk hy301
  clear hy301
  obtain ⟨y304, hy304⟩ : ∃ y_ : List Int, y_ = (([1, 1] : List Int)) := ⟨_, rfl⟩
  replace H : ((some (([y286, y289, y292, y295, y298, y301, y304, (([3, 4] : List Int))] : List (List Int)) : List (List Int))).bind fun y310 => ((spec_l01Next.f s0_0 s0_1 s0_2 8).bind fun bt313 => (if 0 ≤ bt313.1 then (if bt313.1 < (y310.length : Int) then (if 0 < ((rd_L4 y310 bt313.1).length : Int) then (if 1 < ((rd_L4 y310 bt313.1).length : Int) then ((spec_l01Next.f s0_0 bt313.2.1 bt313.2.2 4).bind fun bt319 => (spec_l30Draw.l0 k (rd (rd_L4 y310 bt313.1) 0) (rd (rd_L4 y310 bt313.1) 1) (wrap64 (1 + bt319.1)) (([] : List (S24))) 0 s0_0 bt319.2.1 bt319.2.2)) else (none)) else (none)) else (none)) else (none)))) = some (r1, r2, r3, r4, r5) := by first | (rw [hy304]; with_reducible exact H) | (have H2_ := (Option.bind_some _ _).symm.trans H; rw [hy304]; with_reducible exact H2_) | (have H2_ := (Option.bind_some _ _).symm.trans H; with_reducible exact H2_) | with_reducible exact H | (rw [hy304]; exact H) | exact H
  have Ny304 := Aside0.mk hy304
  clear hy304
  obtain ⟨y307, hy307⟩ : ∃ y_ : List Int, y_ = (([3, 4] : List Int)) := ⟨_, rfl⟩
  replace H : ((some (([y286, y289, y292, y295, y298, y301, y304, y307] : List (List Int)) : List (List Int))).bind fun y310 => ((spec_l01Next.f s0_0 s0_1 s0_2 8).bind fun bt313 => (if 0 ≤ bt313.1 then (if bt313.1 < (y310.length : Int) then (if 0 < ((rd_L4 y310 bt313.1).length : Int) then (if 1 < ((rd_L4 y310 bt313.1).length : Int) then ((spec_l01Next.f s0_0 bt313.2.1 bt313.2.2 4).bind fun bt319 => (spec_l30Draw.l0 k (rd (rd_L4 y310 bt313.1) 0) (rd (rd_L4 y310 bt313.1) 1) (wrap64 (1 + bt319.1)) (([] : List (S24))) 0 s0_0 bt319.2.1 bt319.2.2)) else (none)) else (none)) else (none)) else (none)))) = some (r1, r2, r3, r4, r5) := by first | (rw [hy307]; with_reducible exact H) | (have H2_ := (Option.bind_some _ _).symm.trans H; rw [hy307]; with_reducible exact H2_) | (have H2_ := (Option.bind_some _ _).symm.trans H; with_reducible exact H2_) | with_reducible exact H | (rw [hy307]; exact H) | exact H
  have Ny307 := Aside0.mk hy307
  clear hy307
  obtain ⟨y310, hy310⟩ : ∃ y_ : List (List Int), y_ = (([y286, y289, y292, y295, y298, y301, y304, y307] : List (List Int))) := ⟨_, rfl⟩
  replace H : ((spec_l01Next.f s0_0 s0_1 s0_2 8).bind fun bt313 => (if 0 ≤ bt313.1 then (if bt313.1 < (y310.length : Int) then (if 0 < ((rd_L4 y310 bt313.1).length : Int) then (if 1 < ((rd_L4 y310 bt313.1).length : Int) then ((spec_l01Next.f s0_0 bt313.2.1 bt313.2.2 4).bind fun bt319 => (spec_l30Draw.l0 k (rd (rd_L4 y310 bt313.1) 0) (rd (rd_L4 y310 bt313.1) 1) (wrap64 (1 + bt319.1)) (([] : List (S24))) 0 s0_0 bt319.2.1 bt319.2.2)) else (none)) else (none)) else (none)) else (none))) = some (r1, r2, r3, r4, r5) := by first | (rw [hy310]; with_reducible exact H) | (have H2_ := (Option.bind_some _ _).symm.trans H; rw [hy310]; with_reducible exact H2_) | (have H2_ := (Option.bind_some _ _).symm.trans H; with_reducible exact H2_) | with_reducible exact H | (rw [hy310]; exact H) | exact H
  have Ny310 := Aside0.mk hy310
  clear hy310
  replace H := Option.bind_eq_some_iff.mp H
  obtain ⟨⟨t313, t314, t315⟩, A20, H⟩ := H
  replace H : (if 0 ≤ t313 then (if t313 < (y310.length : Int) then (if 0 < ((rd_L4 y310 t313).length : Int) then (if 1 < ((rd_L4 y310 t313).length : Int) then ((spec_l01Next.f s0_0 t314 t315 4).bind fun bt319 => (spec_l30Draw.l0 k (rd (rd_L4 y310 t313) 0) (rd (rd_L4 y310 t313) 1) (wrap64 (1 + bt319.1)) (([] : List (S24))) 0 s0_0 bt319.2.1 bt319.2.2)) else (none)) else (none)) else (none)) else (none)) = some (r1, r2, r3, r4, r5) := H
  have A2 := Aside0.mk A20
  clear A20
  by_cases c3 : 0 ≤ t313
  · rw [if_pos c3] at H
    have c3b0 : decide (0 ≤ t313) = true := decide_eq_true c3
    clear c3
    by_cases c4 : t313 < (y310.length : Int)
    · rw [if_pos c4] at H
      have c4b0 : decide (t313 < (y310.length : Int)) = true := decide_eq_true c4
      clear c4
      by_cases c5 : 0 < ((rd_L4 y310 t313).length : Int)
      · rw [if_pos c5] at H
        have c5b0 : decide (0 < ((rd_L4 y310 t313).length : Int)) = true := decide_eq_true c5
        have c5b1 : decide (0 < (rd_L4 y310 t313).length) = true := decide_eq_true (by omega)
        clear c5
        by_cases c6 : 1 < ((rd_L4 y310 t313).length : Int)
        · rw [if_pos c6] at H
          have c6b0 : decide (1 < ((rd_L4 y310 t313).length : Int)) = true := decide_eq_true c6
          have c6b1 : decide (1 < (rd_L4 y310 t313).length) = true := decide_eq_true (by omega)
          clear c6
          replace H := Option.bind_eq_some_iff.mp H
          obtain ⟨⟨t319, t320, t321⟩, A70, H⟩ := H
          replace H : (spec_l30Draw.l0 k (rd (rd_L4 y310 t313) 0) (rd (rd_L4 y310 t313) 1) (wrap64 (1 + t319)) (([] : List (S24))) 0 s0_0 t320 t321) = some (r1, r2, r3, r4, r5) := H
          have A7 := Aside0.mk A70
          clear A70
          obtain ⟨y322, hy322⟩ : ∃ y_ : List (S24), y_ = (([] : List (S24))) := ⟨_, rfl⟩
          replace H : (spec_l30Draw.l0 k (rd (rd_L4 y310 t313) 0) (rd (rd_L4 y310 t313) 1) (wrap64 (1 + t319)) y322 0 s0_0 t320 t321) = some (r1, r2, r3, r4, r5) := by first | (rw [hy322]; with_reducible exact H) | (have H2_ := (Option.bind_some _ _).symm.trans H; rw [hy322]; with_reducible exact H2_) | (have H2_ := (Option.bind_some _ _).symm.trans H; with_reducible exact H2_) | with_reducible exact H | (rw [hy322]; exact H) | exact H
          have Ny322 := Aside0.mk hy322
          clear hy322
          have H' := Aside0.mk H
          clear H
          go_enter Try.func73, Try.ntmps73
          try go_wp2_with (first | ((with_reducible refine gate_dst (N := 16) rfl ?_); refine Kd.R_lit (Kd.int .i64) _ 2 ?hg (N := 16) ?hd (xs := ([2, 2] : List Int)) (inner := [.int .i64 2, .int .i64 2]) (ok := fun _ => True) (okp := fun _ => True) ?hr ?hp (fun _ hk => hk) trivial (Below.refl _ _) (Nat.le_refl _) (by simp) ?_; (case hd => rfl); (case hg => rfl); (case hr => first | (go_simp; done) | (go_simp; rfl)); (case hp => exact (Reps.one (show Kd.M (Kd.int .i64) _ _ _ 2 [.int .i64 2] from rfl) (Reps.one (show Kd.M (Kd.int .i64) _ _ _ 2 [.int .i64 2] from rfl) (Reps.none _ _)))); intro v287 w8 ho9 hb hg_ hnew_; clear hg_ hnew_; (first | rw [← Ny286.out] at ho9 | (simp only [Int.reduceToNat] at ho9; rw [← Ny286.out] at ho9)); have n0_ := Aside0.mk (Kd.R_lower ho9 (keep_size (w := w) (g := g) (row := none) (by repeat (first | (with_reducible first | exact HK.out | apply KeepBut.set_ | apply keep_drewN | apply keep_drew | apply keep_alloc) | exact HK.out)))); have n1_ := Aside0.mk (IsS102.below (by repeat (first | (with_reducible first | exact HI0.out | apply IsS102.alloc | apply IsS102.drewN | apply IsS102.drew | apply IsS102.set_1 | apply IsS102.set_2) | exact HI0.out)) hb); have n2_ := Aside0.mk (KeepBut.trans (by repeat (first | (with_reducible first | exact HK.out | apply KeepBut.set_ | apply keep_drewN | apply keep_drew | apply keep_alloc) | exact HK.out)) (KeepBut.of_below hb g none) (.inl rfl)); have n3_ := Aside0.mk (below_step (by repeat (first | (with_reducible first | exact HB.out | apply below_alloc | apply pw_below_drewN | apply below_drew1 | refine below_set ?_ (IsS102.ge HI0.out)) | exact HB.out)) hb); clear HI0; clear HK; clear HB; have HO288 := n0_; have HI0 := n1_; have HK := n2_; have HB := n3_; clear n0_ n1_ n2_ n3_; clear hb ho9) | ((with_reducible refine gate_dst (N := 17) rfl ?_); refine Kd.R_lit (Kd.int .i64) _ 2 ?hg (N := 17) ?hd (xs := ([3, 2] : List Int)) (inner := [.int .i64 3, .int .i64 2]) (ok := fun _ => True) (okp := fun _ => True) ?hr ?hp (fun _ hk => hk) trivial (Below.refl _ _) (Nat.le_refl _) (by simp) ?_; (case hd => rfl); (case hg => rfl); (case hr => first | (go_simp; done) | (go_simp; rfl)); (case hp => exact (Reps.one (show Kd.M (Kd.int .i64) _ _ _ 3 [.int .i64 3] from rfl) (Reps.one (show Kd.M (Kd.int .i64) _ _ _ 2 [.int .i64 2] from rfl) (Reps.none _ _)))); intro v290 w10 ho11 hb hg_ hnew_; clear hg_ hnew_; (first | rw [← Ny289.out] at ho11 | (simp only [Int.reduceToNat] at ho11; rw [← Ny289.out] at ho11)); have n0_ := Aside0.mk (Kd.R_elder' (by (with_reducible repeat (first | apply Kd.R_alloc | apply Kd.R_drewN | apply Kd.R_drew)); exact HO288.out) (Kd.R_base ho11) hb); have n1_ := Aside0.mk (Kd.R_lower (Kd.R_new' ho11 (Kd.R_lt (by (with_reducible repeat (first | apply Kd.R_alloc | apply Kd.R_drewN | apply Kd.R_drew)); exact HO288.out))) (keep_size (w := w) (g := g) (row := none) (by repeat (first | (with_reducible first | exact HK.out | apply KeepBut.set_ | apply keep_drewN | apply keep_drew | apply keep_alloc) | exact HK.out)))); have n2_ := Aside0.mk (IsS102.below (by repeat (first | (with_reducible first | exact HI0.out | apply IsS102.alloc | apply IsS102.drewN | apply IsS102.drew | apply IsS102.set_1 | apply IsS102.set_2) | exact HI0.out)) hb); have n3_ := Aside0.mk (KeepBut.trans (by repeat (first | (with_reducible first | exact HK.out | apply KeepBut.set_ | apply keep_drewN | apply keep_drew | apply keep_alloc) | exact HK.out)) (KeepBut.of_below hb g none) (.inl rfl)); have n4_ := Aside0.mk (below_step (by repeat (first | (with_reducible first | exact HB.out | apply below_alloc | apply pw_below_drewN | apply below_drew1 | refine below_set ?_ (IsS102.ge HI0.out)) | exact HB.out)) hb); clear HO288; clear HI0; clear HK; clear HB; have HO288 := n0_; have HO291 := n1_; have HI0 := n2_; have HK := n3_; have HB := n4_; clear n0_ n1_ n2_ n3_ n4_; clear hb ho11) | ((with_reducible refine gate_dst (N := 18) rfl ?_); refine Kd.R_lit (Kd.int .i64) _ 2 ?hg (N := 18) ?hd (xs := ([2, 3] : List Int)) (inner := [.int .i64 2, .int .i64 3]) (ok := fun _ => True) (okp := fun _ => True) ?hr ?hp (fun _ hk => hk) trivial (Below.refl _ _) (Nat.le_refl _) (by simp) ?_; (case hd => rfl); (case hg => rfl); (case hr => first | (go_simp; done) | (go_simp; rfl)); (case hp => exact (Reps.one (show Kd.M (Kd.int .i64) _ _ _ 2 [.int .i64 2] from rfl) (Reps.one (show Kd.M (Kd.int .i64) _ _ _ 3 [.int .i64 3] from rfl) (Reps.none _ _)))); intro v293 w12 ho13 hb hg_ hnew_; clear hg_ hnew_; (first | rw [← Ny292.out] at ho13 | (simp only [Int.reduceToNat] at ho13; rw [← Ny292.out] at ho13)); have n0_ := Aside0.mk (Kd.R_elder' (by (with_reducible repeat (first | apply Kd.R_alloc | apply Kd.R_drewN | apply Kd.R_drew)); exact HO288.out) (Kd.R_base ho13) hb); have n1_ := Aside0.mk (Kd.R_elder' (by (with_reducible repeat (first | apply Kd.R_alloc | apply Kd.R_drewN | apply Kd.R_drew)); exact HO291.out) (Kd.R_base ho13) hb); have n2_ := Aside0.mk (Kd.R_lower (Kd.R_new' (Kd.R_new' ho13 (Kd.R_lt (by (with_reducible repeat (first | apply Kd.R_alloc | apply Kd.R_drewN | apply Kd.R_drew)); exact HO288.out))) (Kd.R_lt (by (with_reducible repeat (first | apply Kd.R_alloc | apply Kd.R_drewN | apply Kd.R_drew)); exact HO291.out))) (keep_size (w := w) (g := g) (row := none) (by repeat (first | (with_reducible first | exact HK.out | apply KeepBut.set_ | apply keep_drewN | apply keep_drew | apply keep_alloc) | exact HK.out)))); have n3_ := Aside0.mk (IsS102.below (by repeat (first | (with_reducible first | exact HI0.out | apply IsS102.alloc | apply IsS102.drewN | apply IsS102.drew | apply IsS102.set_1 | apply IsS102.set_2) | exact HI0.out)) hb); have n4_ := Aside0.mk (KeepBut.trans (by repeat (first | (with_reducible first | exact HK.out | apply KeepBut.set_ | apply keep_drewN | apply keep_drew | apply keep_alloc) | exact HK.out)) (KeepBut.of_below hb g none) (.inl rfl)); have n5_ := Aside0.mk (below_step (by repeat (first | (with_reducible first | exact HB.out | apply below_alloc | apply pw_below_drewN | apply below_drew1 | refine below_set ?_ (IsS102.ge HI0.out)) | exact HB.out)) hb); clear HO288; clear HO291; clear HI0; clear HK; clear HB; have HO288 := n0_; have HO291 := n1_; have HO294 := n2_; have HI0 := n3_; have HK := n4_; have HB := n5_; clear n0_ n1_ n2_ n3_ n4_ n5_; clear hb ho13) | ((with_reducible refine gate_dst (N := 19) rfl ?_); refine Kd.R_lit (Kd.int .i64) _ 2 ?hg (N := 19) ?hd (xs := ([3, 3] : List Int)) (inner := [.int .i64 3, .int .i64 3]) (ok := fun _ => True) (okp := fun _ => True) ?hr ?hp (fun _ hk => hk) trivial (Below.refl _ _) (Nat.le_refl _) (by simp) ?_; (case hd => rfl); (case hg => rfl); (case hr => first | (go_simp; done) | (go_simp; rfl)); (case hp => exact (Reps.one (show Kd.M (Kd.int .i64) _ _ _ 3 [.int .i64 3] from rfl) (Reps.one (show Kd.M (Kd.int .i64) _ _ _ 3 [.int .i64 3] from rfl) (Reps.none _ _)))); intro v296 w14 ho15 hb hg_ hnew_; clear hg_ hnew_; (first | rw [← Ny295.out] at ho15 | (simp only [Int.reduceToNat] at ho15; rw [← Ny295.out] at ho15)); have n0_ := Aside0.mk (Kd.R_elder' (by (with_reducible repeat (first | apply Kd.R_alloc | apply Kd.R_drewN | apply Kd.R_drew)); exact HO288.out) (Kd.R_base ho15) hb); have n1_ := Aside0.mk (Kd.R_elder' (by (with_reducible repeat (first | apply Kd.R_alloc | apply Kd.R_drewN | apply Kd.R_drew)); exact HO291.out) (Kd.R_base ho15) hb); have n2_ := Aside0.mk (Kd.R_elder' (by (with_reducible repeat (first | apply Kd.R_alloc | apply Kd.R_drewN | apply Kd.R_drew)); exact HO294.out) (Kd.R_base ho15) hb); have n3_ := Aside0.mk (Kd.R_lower (Kd.R_new' (Kd.R_new' (Kd.R_new' ho15 (Kd.R_lt (by (with_reducible repeat (first | apply Kd.R_alloc | apply Kd.R_drewN | apply Kd.R_drew)); exact HO288.out))) (Kd.R_lt (by (with_reducible repeat (first | apply Kd.R_alloc | apply Kd.R_drewN | apply Kd.R_drew)); exact HO291.out))) (Kd.R_lt (by (with_reducible repeat (first | apply Kd.R_alloc | apply Kd.R_drewN | apply Kd.R_drew)); exact HO294.out))) (keep_size (w := w) (g := g) (row := none) (by repeat (first | (with_reducible first | exact HK.out | apply KeepBut.set_ | apply keep_drewN | apply keep_drew | apply keep_alloc) | exact HK.out)))); have n4_ := Aside0.mk (IsS102.below (by repeat (first | (with_reducible first | exact HI0.out | apply IsS102.alloc | apply IsS102.drewN | apply IsS102.drew | apply IsS102.set_1 | apply IsS102.set_2) | exact HI0.out)) hb); have n5_ := Aside0.mk (KeepBut.trans (by repeat (first | (with_reducible first | exact HK.out | apply KeepBut.set_ | apply keep_drewN | apply keep_drew | apply keep_alloc) | exact HK.out)) (KeepBut.of_below hb g none) (.inl rfl)); have n6_ := Aside0.mk (below_step (by repeat (first | (with_reducible first | exact HB.out | apply below_alloc | apply pw_below_drewN | apply below_drew1 | refine below_set ?_ (IsS102.ge HI0.out)) | exact HB.out)) hb); clear HO288; clear HO291; clear HO294; clear HI0; clear HK; clear HB; have HO288 := n0_; have HO291 := n1_; have HO294 := n2_; have HO297 := n3_; have HI0 := n4_; have HK := n5_; have HB := n6_; clear n0_ n1_ n2_ n3_ n4_ n5_ n6_; clear hb ho15) | ((with_reducible refine gate_dst (N := 20) rfl ?_); refine Kd.R_lit (Kd.int .i64) _ 2 ?hg (N := 20) ?hd (xs := ([1, 3] : List Int)) (inner := [.int .i64 1, .int .i64 3]) (ok := fun _ => True) (okp := fun _ => True) ?hr ?hp (fun _ hk => hk) trivial (Below.refl _ _) (Nat.le_refl _) (by simp) ?_; (case hd => rfl); (case hg => rfl); (case hr => first | (go_simp; done) | (go_simp; rfl)); (case hp => exact (Reps.one (show Kd.M (Kd.int .i64) _ _ _ 1 [.int .i64 1] from rfl) (Reps.one (show Kd.M (Kd.int .i64) _ _ _ 3 [.int .i64 3] from rfl) (Reps.none _ _)))); intro v299 w16 ho17 hb hg_ hnew_; clear hg_ hnew_; (first | rw [← Ny298.out] at ho17 | (simp only [Int.reduceToNat] at ho17; rw [← Ny298.out] at ho17)); have n0_ := Aside0.mk (Kd.R_elder' (by (with_reducible repeat (first | apply Kd.R_alloc | apply Kd.R_drewN | apply Kd.R_drew)); exact HO288.out) (Kd.R_base ho17) hb); have n1_ := Aside0.mk (Kd.R_elder' (by (with_reducible repeat (first | apply Kd.R_alloc | apply Kd.R_drewN | apply Kd.R_drew)); exact HO291.out) (Kd.R_base ho17) hb); have n2_ := Aside0.mk (Kd.R_elder' (by (with_reducible repeat (first | apply Kd.R_alloc | apply Kd.R_drewN | apply Kd.R_drew)); exact HO294.out) (Kd.R_base ho17) hb); have n3_ := Aside0.mk (Kd.R_elder' (by (with_reducible repeat (first | apply Kd.R_alloc | apply Kd.R_drewN | apply Kd.R_drew)); exact HO297.out) (Kd.R_base ho17) hb); have n4_ := Aside0.mk (Kd.R_lower (Kd.R_new' (Kd.R_new' (Kd.R_new' (Kd.R_new' ho17 (Kd.R_lt (by (with_reducible repeat (first | apply Kd.R_alloc | apply Kd.R_drewN | apply Kd.R_drew)); exact HO288.out))) (Kd.R_lt (by (with_reducible repeat (first | apply Kd.R_alloc | apply Kd.R_drewN | apply Kd.R_drew)); exact HO291.out))) (Kd.R_lt (by (with_reducible repeat (first | apply Kd.R_alloc | apply Kd.R_drewN | apply Kd.R_drew)); exact HO294.out))) (Kd.R_lt (by (with_reducible repeat (first | apply Kd.R_alloc | apply Kd.R_drewN | apply Kd.R_drew)); exact HO297.out))) (keep_size (w := w) (g := g) (row := none) (by repeat (first | (with_reducible first | exact HK.out | apply KeepBut.set_ | apply keep_drewN | apply keep_drew | apply keep_alloc) | exact HK.out)))); have n5_ := Aside0.mk (IsS102.below (by repeat (first | (with_reducible first | exact HI0.out | apply IsS102.alloc | apply IsS102.drewN | apply IsS102.drew | apply IsS102.set_1 | apply IsS102.set_2) | exact HI0.out)) hb); have n6_ := Aside0.mk (KeepBut.trans (by repeat (first | (with_reducible first | exact HK.out | apply KeepBut.set_ | apply keep_drewN | apply keep_drew | apply keep_alloc) | exact HK.out)) (KeepBut.of_below hb g none) (.inl rfl)); have n7_ := Aside0.mk (below_step (by repeat (first | (with_reducible first | exact HB.out | apply below_alloc | apply pw_below_drewN | apply below_drew1 | refine below_set ?_ (IsS102.ge HI0.out)) | exact HB.out)) hb); clear HO288; clear HO291; clear HO294; clear HO297; clear HI0; clear HK; clear HB; have HO288 := n0_; have HO291 := n1_; have HO294 := n2_; have HO297 := n3_; have HO300 := n4_; have HI0 := n5_; have HK := n6_; have HB := n7_; clear n0_ n1_ n2_ n3_ n4_ n5_ n6_ n7_; clear hb ho17) | ((with_reducible refine gate_dst (N := 21) rfl ?_); refine Kd.R_lit (Kd.int .i64) _ 2 ?hg (N := 21) ?hd (xs := ([4, 2] : List Int)) (inner := [.int .i64 4, .int .i64 2]) (ok := fun _ => True) (okp := fun _ => True) ?hr ?hp (fun _ hk => hk) trivial (Below.refl _ _) (Nat.le_refl _) (by simp) ?_; (case hd => rfl); (case hg => rfl); (case hr => first | (go_simp; done) | (go_simp; rfl)); (case hp => exact (Reps.one (show Kd.M (Kd.int .i64) _ _ _ 4 [.int .i64 4] from rfl) (Reps.one (show Kd.M (Kd.int .i64) _ _ _ 2 [.int .i64 2] from rfl) (Reps.none _ _)))); intro v302 w18 ho19 hb hg_ hnew_; clear hg_ hnew_; (first | rw [← Ny301.out] at ho19 | (simp only [Int.reduceToNat] at ho19; rw [← Ny301.out] at ho19)); have n0_ := Aside0.mk (Kd.R_elder' (by (with_reducible repeat (first | apply Kd.R_alloc | apply Kd.R_drewN | apply Kd.R_drew)); exact HO288.out) (Kd.R_base ho19) hb); have n1_ := Aside0.mk (Kd.R_elder' (by (with_reducible repeat (first | apply Kd.R_alloc | apply Kd.R_drewN | apply Kd.R_drew)); exact HO291.out) (Kd.R_base ho19) hb); have n2_ := Aside0.mk (Kd.R_elder' (by (with_reducible repeat (first | apply Kd.R_alloc | apply Kd.R_drewN | apply Kd.R_drew)); exact HO294.out) (Kd.R_base ho19) hb); have n3_ := Aside0.mk (Kd.R_elder' (by (with_reducible repeat (first | apply Kd.R_alloc | apply Kd.R_drewN | apply Kd.R_drew)); exact HO297.out) (Kd.R_base ho19) hb); have n4_ := Aside0.mk (Kd.R_elder' (by (with_reducible repeat (first | apply Kd.R_alloc | apply Kd.R_drewN | apply Kd.R_drew)); exact HO300.out) (Kd.R_base ho19) hb); have n5_ := Aside0.mk (Kd.R_lower (Kd.R_new' (Kd.R_new' (Kd.R_new' (Kd.R_new' (Kd.R_new' ho19 (Kd.R_lt (by (with_reducible repeat (first | apply Kd.R_alloc | apply Kd.R_drewN | apply Kd.R_drew)); exact HO288.out))) (Kd.R_lt (by (with_reducible repeat (first | apply Kd.R_alloc | apply Kd.R_drewN | apply Kd.R_drew)); exact HO291.out))) (Kd.R_lt (by (with_reducible repeat (first | apply Kd.R_alloc | apply Kd.R_drewN | apply Kd.R_drew)); exact HO294.out))) (Kd.R_lt (by (with_reducible repeat (first | apply Kd.R_alloc | apply Kd.R_drewN | apply Kd.R_drew)); exact HO297.out))) (Kd.R_lt (by (with_reducible repeat (first | apply Kd.R_alloc | apply Kd.R_drewN | apply Kd.R_drew)); exact HO300.out))) (keep_size (w := w) (g := g) (row := none) (by repeat (first | (with_reducible first | exact HK.out | apply KeepBut.set_ | apply keep_drewN | apply keep_drew | apply keep_alloc) | exact HK.out)))); have n6_ := Aside0.mk (IsS102.below (by repeat (first | (with_reducible first | exact HI0.out | apply IsS102.alloc | apply IsS102.drewN | apply IsS102.drew | apply IsS102.set_1 | apply IsS102.set_2) | exact HI0.out)) hb); have n7_ := Aside0.mk (KeepBut.trans (by repeat (first | (with_reducible first | exact HK.out | apply KeepBut.set_ | apply keep_drewN | apply keep_drew | apply keep_alloc) | exact HK.out)) (KeepBut.of_below hb g none) (.inl rfl)); have n8_ := Aside0.mk (below_step (by repeat (first | (with_reducible first | exact HB.out | apply below_alloc | apply pw_below_drewN | apply below_drew1 | refine below_set ?_ (IsS102.ge HI0.out)) | exact HB.out)) hb); clear HO288; clear HO291; clear HO294; clear HO297; clear HO300; clear HI0; clear HK; clear HB; have HO288 := n0_; have HO291 := n1_; have HO294 := n2_; have HO297 := n3_; have HO300 := n4_; have HO303 := n5_; have HI0 := n6_; have HK := n7_; have HB := n8_; clear n0_ n1_ n2_ n3_ n4_ n5_ n6_ n7_ n8_; clear hb ho19) | ((with_reducible refine gate_dst (N := 22) rfl ?_); refine Kd.R_lit (Kd.int .i64) _ 2 ?hg (N := 22) ?hd (xs := ([1, 1] : List Int)) (inner := [.int .i64 1, .int .i64 1]) (ok := fun _ => True) (okp := fun _ => True) ?hr ?hp (fun _ hk => hk) trivial (Below.refl _ _) (Nat.le_refl _) (by simp) ?_; (case hd => rfl); (case hg => rfl); (case hr => first | (go_simp; done) | (go_simp; rfl)); (case hp => exact (Reps.one (show Kd.M (Kd.int .i64) _ _ _ 1 [.int .i64 1] from rfl) (Reps.one (show Kd.M (Kd.int .i64) _ _ _ 1 [.int .i64 1] from rfl) (Reps.none _ _)))); intro v305 w20 ho21 hb hg_ hnew_; clear hg_ hnew_; (first | rw [← Ny304.out] at ho21 | (simp only [Int.reduceToNat] at ho21; rw [← Ny304.out] at ho21)); have n0_ := Aside0.mk (Kd.R_elder' (by (with_reducible repeat (first | apply Kd.R_alloc | apply Kd.R_drewN | apply Kd.R_drew)); exact HO288.out) (Kd.R_base ho21) hb); have n1_ := Aside0.mk (Kd.R_elder' (by (with_reducible repeat (first | apply Kd.R_alloc | apply Kd.R_drewN | apply Kd.R_drew)); exact HO291.out) (Kd.R_base ho21) hb); have n2_ := Aside0.mk (Kd.R_elder' (by (with_reducible repeat (first | apply Kd.R_alloc | apply Kd.R_drewN | apply Kd.R_drew)); exact HO294.out) (Kd.R_base ho21) hb); have n3_ := Aside0.mk (Kd.R_elder' (by (with_reducible repeat (first | apply Kd.R_alloc | apply Kd.R_drewN | apply Kd.R_drew)); exact HO297.out) (Kd.R_base ho21) hb); have n4_ := Aside0.mk (Kd.R_elder' (by (with_reducible repeat (first | apply Kd.R_alloc | apply Kd.R_drewN | apply Kd.R_drew)); exact HO300.out) (Kd.R_base ho21) hb); have n5_ := Aside0.mk (Kd.R_elder' (by (with_reducible repeat (first | apply Kd.R_alloc | apply Kd.R_drewN | apply Kd.R_drew)); exact HO303.out) (Kd.R_base ho21) hb); have n6_ := Aside0.mk (Kd.R_lower (Kd.R_new' (Kd.R_new' (Kd.R_new' (Kd.R_new' (Kd.R_new' (Kd.R_new' ho21 (Kd.R_lt (by (with_reducible repeat (first | apply Kd.R_alloc | apply Kd.R_drewN | apply Kd.R_drew)); exact HO288.out))) (Kd.R_lt (by (with_reducible repeat (first | apply Kd.R_alloc | apply Kd.R_drewN | apply Kd.R_drew)); exact HO291.out))) (Kd.R_lt (by (with_reducible repeat (first | apply Kd.R_alloc | apply Kd.R_drewN | apply Kd.R_drew)); exact HO294.out))) (Kd.R_lt (by (with_reducible repeat (first | apply Kd.R_alloc | apply Kd.R_drewN | apply Kd.R_drew)); exact HO297.out))) (Kd.R_lt (by (with_reducible repeat (first | apply Kd.R_alloc | apply Kd.R_drewN | apply Kd.R_drew)); exact HO300.out))) (Kd.R_lt (by (with_reducible repeat (first | apply Kd.R_alloc | apply Kd.R_drewN | apply Kd.R_drew)); exact HO303.out))) (keep_size (w := w) (g := g) (row := none) (by repeat (first | (with_reducible first | exact HK.out | apply KeepBut.set_ | apply keep_drewN | apply keep_drew | apply keep_alloc) | exact HK.out)))); have n7_ := Aside0.mk (IsS102.below (by repeat (first | (with_reducible first | exact HI0.out | apply IsS102.alloc | apply IsS102.drewN | apply IsS102.drew | apply IsS102.set_1 | apply IsS102.set_2) | exact HI0.out)) hb); have n8_ := Aside0.mk (KeepBut.trans (by repeat (first | (with_reducible first | exact HK.out | apply KeepBut.set_ | apply keep_drewN | apply keep_drew | apply keep_alloc) | exact HK.out)) (KeepBut.of_below hb g none) (.inl rfl)); have n9_ := Aside0.mk (below_step (by repeat (first | (with_reducible first | exact HB.out | apply below_alloc | apply pw_below_drewN | apply below_drew1 | refine below_set ?_ (IsS102.ge HI0.out)) | exact HB.out)) hb); clear HO288; clear HO291; clear HO294; clear HO297; clear HO300; clear HO303; clear HI0; clear HK; clear HB; have HO288 := n0_; have HO291 := n1_; have HO294 := n2_; have HO297 := n3_; have HO300 := n4_; have HO303 := n5_; have HO306 := n6_; have HI0 := n7_; have HK := n8_; have HB := n9_; clear n0_ n1_ n2_ n3_ n4_ n5_ n6_ n7_ n8_ n9_; clear hb ho21) | ((with_reducible refine gate_dst (N := 23) rfl ?_); refine Kd.R_lit (Kd.int .i64) _ 2 ?hg (N := 23) ?hd (xs := ([3, 4] : List Int)) (inner := [.int .i64 3, .int .i64 4]) (ok := fun _ => True) (okp := fun _ => True) ?hr ?hp (fun _ hk => hk) trivial (Below.refl _ _) (Nat.le_refl _) (by simp) ?_; (case hd => rfl); (case hg => rfl); (case hr => first | (go_simp; done) | (go_simp; rfl)); (case hp => exact (Reps.one (show Kd.M (Kd.int .i64) _ _ _ 3 [.int .i64 3] from rfl) (Reps.one (show Kd.M (Kd.int .i64) _ _ _ 4 [.int .i64 4] from rfl) (Reps.none _ _)))); intro v308 w22 ho23 hb hg_ hnew_; clear hg_ hnew_; (first | rw [← Ny307.out] at ho23 | (simp only [Int.reduceToNat] at ho23; rw [← Ny307.out] at ho23)); have n0_ := Aside0.mk (Kd.R_elder' (by (with_reducible repeat (first | apply Kd.R_alloc | apply Kd.R_drewN | apply Kd.R_drew)); exact HO288.out) (Kd.R_base ho23) hb); have n1_ := Aside0.mk (Kd.R_elder' (by (with_reducible repeat (first | apply Kd.R_alloc | apply Kd.R_drewN | apply Kd.R_drew)); exact HO291.out) (Kd.R_base ho23) hb); have n2_ := Aside0.mk (Kd.R_elder' (by (with_reducible repeat (first | apply Kd.R_alloc | apply Kd.R_drewN | apply Kd.R_drew)); exact HO294.out) (Kd.R_base ho23) hb); have n3_ := Aside0.mk (Kd.R_elder' (by (with_reducible repeat (first | apply Kd.R_alloc | apply Kd.R_drewN | apply Kd.R_drew)); exact HO297.out) (Kd.R_base ho23) hb); have n4_ := Aside0.mk (Kd.R_elder' (by (with_reducible repeat (first | apply Kd.R_alloc | apply Kd.R_drewN | apply Kd.R_drew)); exact HO300.out) (Kd.R_base ho23) hb); have n5_ := Aside0.mk (Kd.R_elder' (by (with_reducible repeat (first | apply Kd.R_alloc | apply Kd.R_drewN | apply Kd.R_drew)); exact HO303.out) (Kd.R_base ho23) hb); have n6_ := Aside0.mk (Kd.R_elder' (by (with_reducible repeat (first | apply Kd.R_alloc | apply Kd.R_drewN | apply Kd.R_drew)); exact HO306.out) (Kd.R_base ho23) hb); have n7_ := Aside0.mk (Kd.R_lower (Kd.R_new' (Kd.R_new' (Kd.R_new' (Kd.R_new' (Kd.R_new' (Kd.R_new' (Kd.R_new' ho23 (Kd.R_lt (by (with_reducible repeat (first | apply Kd.R_alloc | apply Kd.R_drewN | apply Kd.R_drew)); exact HO288.out))) (Kd.R_lt (by (with_reducible repeat (first | apply Kd.R_alloc | apply Kd.R_drewN | apply Kd.R_drew)); exact HO291.out))) (Kd.R_lt (by (with_reducible repeat (first | apply Kd.R_alloc | apply Kd.R_drewN | apply Kd.R_drew)); exact HO294.out))) (Kd.R_lt (by (with_reducible repeat (first | apply Kd.R_alloc | apply Kd.R_drewN | apply Kd.R_drew)); exact HO297.out))) (Kd.R_lt (by (with_reducible repeat (first | apply Kd.R_alloc | apply Kd.R_drewN | apply Kd.R_drew)); exact HO300.out))) (Kd.R_lt (by (with_reducible repeat (first | apply Kd.R_alloc | apply Kd.R_drewN | apply Kd.R_drew)); exact HO303.out))) (Kd.R_lt (by (with_reducible repeat (first | apply Kd.R_alloc | apply Kd.R_drewN | apply Kd.R_drew)); exact HO306.out))) (keep_size (w := w) (g := g) (row := none) (by repeat (first | (with_reducible first | exact HK.out | apply KeepBut.set_ | apply keep_drewN | apply keep_drew | apply keep_alloc) | exact HK.out)))); have n8_ := Aside0.mk (IsS102.below (by repeat (first | (with_reducible first | exact HI0.out | apply IsS102.alloc | apply IsS102.drewN | apply IsS102.drew | apply IsS102.set_1 | apply IsS102.set_2) | exact HI0.out)) hb); have n9_ := Aside0.mk (KeepBut.trans (by repeat (first | (with_reducible first | exact HK.out | apply KeepBut.set_ | apply keep_drewN | apply keep_drew | apply keep_alloc) | exact HK.out)) (KeepBut.of_below hb g none) (.inl rfl)); have n10_ := Aside0.mk (below_step (by repeat (first | (with_reducible first | exact HB.out | apply below_alloc | apply pw_below_drewN | apply below_drew1 | refine below_set ?_ (IsS102.ge HI0.out)) | exact HB.out)) hb); clear HO288; clear HO291; clear HO294; clear HO297; clear HO300; clear HO303; clear HO306; clear HI0; clear HK; clear HB; have HO288 := n0_; have HO291 := n1_; have HO294 := n2_; have HO297 := n3_; have HO300 := n4_; have HO303 := n5_; have HO306 := n6_; have HO309 := n7_; have HI0 := n8_; have HK := n9_; have HB := n10_; clear n0_ n1_ n2_ n3_ n4_ n5_ n6_ n7_ n8_ n9_ n10_; clear hb ho23; obtain ⟨Ao24, co24, eo24⟩ := Kd.R_slice HO288.out; subst eo24; obtain ⟨Ao25, co25, eo25⟩ := Kd.R_slice HO291.out; subst eo25; obtain ⟨Ao26, co26, eo26⟩ := Kd.R_slice HO294.out; subst eo26; obtain ⟨Ao27, co27, eo27⟩ := Kd.R_slice HO297.out; subst eo27; obtain ⟨Ao28, co28, eo28⟩ := Kd.R_slice HO300.out; subst eo28; obtain ⟨Ao29, co29, eo29⟩ := Kd.R_slice HO303.out; subst eo29; obtain ⟨Ao30, co30, eo30⟩ := Kd.R_slice HO306.out; subst eo30; obtain ⟨Ao31, co31, eo31⟩ := Kd.R_slice HO309.out; subst eo31) | ((with_reducible refine gate_dst (N := 24) rfl ?_); refine Kd.N_lit (Kd.slice 2 (Kd.int .i64)) _ 38 ?hg (N' := 24) ?hd (xs := ([y286, y289, y292, y295, y298, y301, y304, y307] : List (List Int))) (inner := [.slice Ao24 y286.length co24, .slice Ao25 y289.length co25, .slice Ao26 y292.length co26, .slice Ao27 y295.length co27, .slice Ao28 y298.length co28, .slice Ao29 y301.length co29, .slice Ao30 y304.length co30, .slice Ao31 y307.length co31]) (ok := (fun k_ => k_ ≠ g)) (okp := (fun k_ => k_ ≠ g)) ?hr ?hp (fun _ hk => hk) ((show ∀ k_, w22.heap.size ≤ k_ → (fun k_ => k_ ≠ g) k_ from fun k_ hk => IsS102.fresh (by repeat (first | (with_reducible first | exact HI0.out | apply IsS102.alloc | apply IsS102.drewN | apply IsS102.drew | apply IsS102.set_1 | apply IsS102.set_2) | exact HI0.out)) k_ hk) _ (Nat.le_refl _)) (Below.refl _ _) (Nat.le_refl _) (by simp) ?_; (case hd => rfl); (case hg => rfl); (case hr => first | (go_simp; done) | (go_simp; rfl)); (case hp => exact (Reps.one (show Kd.FK (Kd.slice 2 (Kd.int .i64)) _ _ y286 [.slice Ao24 y286.length co24] from (Kd.FK_slice_mk (Kd.R_reads' (Kd.R_mono (ok' := (fun k_ => k_ ≠ g)) (IsS102.apart HI0.out (HO288.out) (by decide)) (fun k_ hk => hk.2))).2.1 (Kd.R_F (Kd.R_mono (ok' := (fun k_ => k_ ≠ g)) (IsS102.apart HI0.out (HO288.out) (by decide)) (fun k_ hk => hk.2))))) (Reps.one (show Kd.FK (Kd.slice 2 (Kd.int .i64)) _ _ y289 [.slice Ao25 y289.length co25] from (Kd.FK_slice_mk (Kd.R_reads' (Kd.R_mono (ok' := (fun k_ => k_ ≠ g)) (IsS102.apart HI0.out (HO291.out) (by decide)) (fun k_ hk => hk.2))).2.1 (Kd.R_F (Kd.R_mono (ok' := (fun k_ => k_ ≠ g)) (IsS102.apart HI0.out (HO291.out) (by decide)) (fun k_ hk => hk.2))))) (Reps.one (show Kd.FK (Kd.slice 2 (Kd.int .i64)) _ _ y292 [.slice Ao26 y292.length co26] from (Kd.FK_slice_mk (Kd.R_reads' (Kd.R_mono (ok' := (fun k_ => k_ ≠ g)) (IsS102.apart HI0.out (HO294.out) (by decide)) (fun k_ hk => hk.2))).2.1 (Kd.R_F (Kd.R_mono (ok' := (fun k_ => k_ ≠ g)) (IsS102.apart HI0.out (HO294.out) (by decide)) (fun k_ hk => hk.2))))) (Reps.one (show Kd.FK (Kd.slice 2 (Kd.int .i64)) _ _ y295 [.slice Ao27 y295.length co27] from (Kd.FK_slice_mk (Kd.R_reads' (Kd.R_mono (ok' := (fun k_ => k_ ≠ g)) (IsS102.apart HI0.out (HO297.out) (by decide)) (fun k_ hk => hk.2))).2.1 (Kd.R_F (Kd.R_mono (ok' := (fun k_ => k_ ≠ g)) (IsS102.apart HI0.out (HO297.out) (by decide)) (fun k_ hk => hk.2))))) (Reps.one (show Kd.FK (Kd.slice 2 (Kd.int .i64)) _ _ y298 [.slice Ao28 y298.length co28] from (Kd.FK_slice_mk (Kd.R_reads' (Kd.R_mono (ok' := (fun k_ => k_ ≠ g)) (IsS102.apart HI0.out (HO300.out) (by decide)) (fun k_ hk => hk.2))).2.1 (Kd.R_F (Kd.R_mono (ok' := (fun k_ => k_ ≠ g)) (IsS102.apart HI0.out (HO300.out) (by decide)) (fun k_ hk => hk.2))))) (Reps.one (show Kd.FK (Kd.slice 2 (Kd.int .i64)) _ _ y301 [.slice Ao29 y301.length co29] from (Kd.FK_slice_mk (Kd.R_reads' (Kd.R_mono (ok' := (fun k_ => k_ ≠ g)) (IsS102.apart HI0.out (HO303.out) (by decide)) (fun k_ hk => hk.2))).2.1 (Kd.R_F (Kd.R_mono (ok' := (fun k_ => k_ ≠ g)) (IsS102.apart HI0.out (HO303.out) (by decide)) (fun k_ hk => hk.2))))) (Reps.one (show Kd.FK (Kd.slice 2 (Kd.int .i64)) _ _ y304 [.slice Ao30 y304.length co30] from (Kd.FK_slice_mk (Kd.R_reads' (Kd.R_mono (ok' := (fun k_ => k_ ≠ g)) (IsS102.apart HI0.out (HO306.out) (by decide)) (fun k_ hk => hk.2))).2.1 (Kd.R_F (Kd.R_mono (ok' := (fun k_ => k_ ≠ g)) (IsS102.apart HI0.out (HO306.out) (by decide)) (fun k_ hk => hk.2))))) (Reps.one (show Kd.FK (Kd.slice 2 (Kd.int .i64)) _ _ y307 [.slice Ao31 y307.length co31] from (Kd.FK_slice_mk (Kd.R_reads' (Kd.R_mono (ok' := (fun k_ => k_ ≠ g)) (IsS102.apart HI0.out (HO309.out) (by decide)) (fun k_ hk => hk.2))).2.1 (Kd.R_F (Kd.R_mono (ok' := (fun k_ => k_ ≠ g)) (IsS102.apart HI0.out (HO309.out) (by decide)) (fun k_ hk => hk.2))))) (Reps.none _ _)))))))))); intro v311 w32 ho33 hb hg_ hnew_; clear hg_ hnew_; (first | rw [← Ny310.out] at ho33 | (simp only [Int.reduceToNat] at ho33; rw [← Ny310.out] at ho33)); have n0_ := Aside0.mk (Kd.N_lower ho33 (keep_size (w := w) (g := g) (row := none) (by repeat (first | (with_reducible first | exact HK.out | apply KeepBut.set_ | apply keep_drewN | apply keep_drew | apply keep_alloc) | exact HK.out)))); have n1_ := Aside0.mk (IsS102.below (by repeat (first | (with_reducible first | exact HI0.out | apply IsS102.alloc | apply IsS102.drewN | apply IsS102.drew | apply IsS102.set_1 | apply IsS102.set_2) | exact HI0.out)) hb); have n2_ := Aside0.mk (KeepBut.trans (by repeat (first | (with_reducible first | exact HK.out | apply KeepBut.set_ | apply keep_drewN | apply keep_drew | apply keep_alloc) | exact HK.out)) (KeepBut.of_below hb g none) (.inl rfl)); have n3_ := Aside0.mk (below_step (by repeat (first | (with_reducible first | exact HB.out | apply below_alloc | apply pw_below_drewN | apply below_drew1 | refine below_set ?_ (IsS102.ge HI0.out)) | exact HB.out)) hb); clear HI0; clear HK; clear HB; clear HO288; clear HO291; clear HO294; clear HO297; clear HO300; clear HO303; clear HO306; clear HO309; have HO312 := n0_; have HI0 := n1_; have HK := n2_; have HB := n3_; clear n0_ n1_ n2_ n3_; clear hb ho33) | ((with_reducible refine gate_callee (f := 74) rfl ?_); refine goesL_ (some 26) rfl rfl Try.func74 (by kernel_rfl) rfl #[.pointer (some ⟨g, 0, none⟩), .int .i64 8] rfl (by (try simp only [List.map_toArray, List.map_cons, List.map_nil]); first | done | rfl | (simp only [List.length_drop, List.length_take]; rfl)) ?_; (with_reducible refine (spec_l01Next.calls g s0_0 s0_1 s0_2 8 t313 t314 t315 w0 _ ?side1 ?side2 A2.out).mono ?_); (case side1 => repeat (first | (with_reducible first | exact HI0.out | apply IsS102.alloc | apply IsS102.drewN | apply IsS102.drew | apply IsS102.set_1 | apply IsS102.set_2) | exact HI0.out)); (case side2 => repeat (first | (with_reducible first | exact HB.out | apply below_alloc | apply pw_below_drewN | apply below_drew1 | refine below_set ?_ (IsS102.ge HI0.out)) | exact HB.out)); rintro e w34 ⟨rfl, hi, hb, hk⟩; refine ⟨_, rfl, ?_⟩; have n0_ := Aside0.mk (Kd.N_mono (Kd.N_keep (Kd.N_mono (ok := fun k_ => k_ ≠ g) (by (with_reducible repeat (first | apply Kd.N_alloc | apply Kd.N_drewN | apply Kd.N_drew)); exact HO312.out) (fun k_ hk_ => (⟨hk_, hk_⟩ : _ ∧ k_ ≠ g))) hk (fun _ h => h.2)) (fun _ h => h.1)); have n1_ := Aside0.mk (KeepBut.trans (by repeat (first | (with_reducible first | exact HK.out | apply KeepBut.set_ | apply keep_drewN | apply keep_drew | apply keep_alloc) | exact HK.out)) hk (.inl rfl)); have n2_ := Aside0.mk (hb); have n3_ := Aside0.mk (hi); clear HO312; clear HK; clear HB; clear HI0; have HO312 := n0_; have HK := n1_; have HB := n2_; have HI0 := n3_; clear n0_ n1_ n2_ n3_; (try clear hb); (try clear hb2); (try clear hk); (try clear hi); obtain ⟨Ao35, co35, eo35⟩ := Kd.N_slice HO312.out; subst eo35; have p316 : 0 ≤ (t313 : Int) := of_decide_eq_true (by first | (with_reducible assumption) | assumption); have q316 : t313 < (y310.length : Int) := of_decide_eq_true (by first | (with_reducible assumption) | assumption); obtain ⟨ad316, A316_0, c316_0, e316, hx316_0, hl316_0, hi316_0⟩ := at_L4 (Kd.N_reads' HO312.out).2.2 t313 p316 q316; cases e316; obtain ⟨ce316, hce316, hMe316, hcc316⟩ := Kd.N_get HO312.out [] t313 p316 (by first | exact q316 | exact of_decide_eq_true (by first | (with_reducible assumption) | assumption) | (have e_ := (Kd.N_reads' HO312.out).1; omega)); obtain ⟨ua316_0, uc316_0, rfl, ul316_0, ge316_0⟩ := Kd.FK_slice_open hMe316; have hv316_0 := hcc316 0 _ rfl; rw [Nat.add_zero, show ((Kd.slice 2 (Kd.int .i64))).sz = 1 from rfl, Nat.mul_one] at hv316_0; replace hv316_0 := Option.some.inj (hv316_0.symm.trans hx316_0); injection hv316_0 with hva_ hvn_ hvc_; rw [hva_] at ge316_0; rw [hvc_] at ul316_0; have HL316_0 := Aside0.mk (show Kd.V (Kd.int .i64) 2 _ w.heap.size _ _ (rd_L4 y310 t313) from Kd.V_mk ul316_0 ge316_0); clear hva_ hvn_ hvc_ ge316_0 ul316_0; clear hcc316 hce316; have HR316_0 := Aside0.mk hi316_0; have HC316_0 := Aside0.mk hl316_0; clear hi316_0 hl316_0; replace p316 := eq_true p316; replace q316 := eq_true q316))
          have n0_ := Aside0.mk (Kd.N_drew HO312.out)
          have n1_ := Aside0.mk (Kd.V_drew HL316_0.out)
          have n2_ := Aside0.mk (Kd.C_drew HR316_0.out)
          have n3_ := Aside0.mk (IsS102.drew HI0.out)
          have n4_ := Aside0.mk (keep_drew HK.out)
          have n5_ := Aside0.mk (below_drew1 HB.out)
          clear HO312
          clear HL316_0
          clear HR316_0
          clear HI0
          clear HK
          clear HB
          have HO312 := n0_
          have HL316_0 := n1_
          have HR316_0 := n2_
          have HI0 := n3_
          have HK := n4_
          have HB := n5_
          clear n0_ n1_ n2_ n3_ n4_ n5_
          have p317 : 0 ≤ (0 : Int) := (by omega)
          have q317 : 0 < ((rd_L4 y310 t313).length : Int) := of_decide_eq_true (by first | (with_reducible assumption) | assumption)
          obtain ⟨ad317, e317, hx317_0⟩ := Kd.at_int (by repeat (first | (with_reducible exact HR316_0.out) | (with_reducible refine Kd.C_alloc ?_ _) | (with_reducible refine Kd.C_drewN ?_ _) | (with_reducible refine Kd.C_drew ?_) | exact HR316_0.out)) 0 p317 q317
          cases e317
          have qi317 : (0 < (rd_L4 y310 t313).length) = True := eq_true (by omega)
          (try rw [show ((0 : Int)).toNat = 0 from rfl] at hx317_0)
          (try rw [Addr.add_zero'] at hx317_0)
          replace p317 := eq_true p317
          replace q317 := eq_true q317
          have p318 : 0 ≤ (1 : Int) := (by omega)
          have q318 : 1 < ((rd_L4 y310 t313).length : Int) := of_decide_eq_true (by first | (with_reducible assumption) | assumption)
          obtain ⟨ad318, e318, hx318_0⟩ := Kd.at_int (by repeat (first | (with_reducible exact HR316_0.out) | (with_reducible refine Kd.C_alloc ?_ _) | (with_reducible refine Kd.C_drewN ?_ _) | (with_reducible refine Kd.C_drew ?_) | exact HR316_0.out)) 1 p318 q318
          obtain rfl : ad317 = ad318 := (by injection e318)
          (try simp only [show (1 : Int).toNat = 1 from rfl, Nat.reduceMul, Nat.reduceEqDiff, Go.Addr.add, ↓reduceIte] at hx318_0)
          have qi318 : (1 < (rd_L4 y310 t313).length) = True := eq_true (by omega)
          (try rw [show ((1 : Int)).toNat = 1 from rfl] at hx318_0)
          replace p318 := eq_true p318
          replace q318 := eq_true q318
          refine start_ (n := 8) (S := fun w' => w'.cell? ad317 = some (.int .i64 (rd (rd_L4 y310 t313) 0)) ∧ w'.cell? ⟨ad317.block, ad317.off + 1, none⟩ = some (.int .i64 (rd (rd_L4 y310 t313) 1))) (ds := []) #[false, false, false, false, false, false, false, false] (by kernel_rfl) rfl rfl ⟨hx317_0, hx318_0⟩ (fun hHeld => ?_); refine with_tabW spec_l30Draw.tab2 spec_l30Draw.bits2 (fun HT_ HW_ => ?_)
          generalize w34.drew = w36 at HO312 HL316_0 HR316_0 HI0 HK HB hx317_0 hx318_0 hHeld ⊢
          refine pure_ (i := 0) (N := some 29) (v := ?_) (a' := ?_) #[true, false, false, false, false, false, false, false] rfl rfl (any_of HT_.out (by kernel_rfl)) (fun _ _ _ h => h) (Or.inl ⟨by rfl, ?_⟩) ?_ ?_
          rotate_left
          · intro w'
            go_simp
            with_reducible rfl
          rotate_left
          · simp only [Act.put, List.setIfInBounds_toArray, List.set_cons_zero, List.set_cons_succ, i64_w, i32_w]
            rfl
          refine pure_ (i := 1) (N := some 30) (v := ?_) (a' := ?_) #[true, true, false, false, false, false, false, false] rfl rfl (any_of HT_.out (by kernel_rfl)) (fun _ _ _ h => h) (Or.inl ⟨by rfl, ?_⟩) ?_ ?_
          rotate_left
          · intro w'
            go_simp
            with_reducible rfl
          rotate_left
          · simp only [Act.put, List.setIfInBounds_toArray, List.set_cons_zero, List.set_cons_succ, i64_w, i32_w]
            rfl
          refine pure_ (i := 3) (N := some 32) (v := ?_) (a' := ?_) #[true, true, false, true, false, false, false, false] rfl rfl (any_of HT_.out (by kernel_rfl)) (fun _ _ _ h => h) (Or.inl ⟨by rfl, ?_⟩) ?_ ?_
          rotate_left
          · intro w'
            go_simp
            with_reducible rfl
          rotate_left
          · simp only [Act.put, List.setIfInBounds_toArray, List.set_cons_zero, List.set_cons_succ, i64_w, i32_w]
            rfl
          refine pure_ (i := 4) (N := some 33) (v := ?_) (a' := ?_) #[true, true, false, true, true, false, false, false] rfl rfl (any_of HT_.out (by kernel_rfl)) (fun _ _ _ h => h) (Or.inl ⟨by rfl, ?_⟩) ?_ ?_
          rotate_left
          · intro w'
            go_simp
            with_reducible rfl
          rotate_left
          · simp only [Act.put, List.setIfInBounds_toArray, List.set_cons_zero, List.set_cons_succ, i64_w, i32_w]
            rfl
          refine take_ (i := 2) (N := some 31) (v := ?_) (a' := ?_) #[true, true, true, true, true, false, false, false] rfl rfl (take_ofW HT_.out HW_.out (by kernel_rfl)) (fun _ _ _ h => h) (Or.inl ⟨by rfl, ?_⟩) hHeld ?_ ?_
          rotate_left
          · rintro w' ⟨s0, s1⟩
            go_simp
            with_reducible rfl
          rotate_left
          · simp only [Act.put, List.setIfInBounds_toArray, List.set_cons_zero, List.set_cons_succ, i64_w, i32_w]
            rfl
          refine pure_ (i := 6) (N := some 6) (v := ?_) (a' := ?_) #[true, true, true, true, true, false, true, false] rfl rfl (any_of HT_.out (by kernel_rfl)) (fun _ _ _ h => h) (Or.inl ⟨by rfl, ?_⟩) ?_ ?_
          rotate_left
          · intro w'
            go_simp
            with_reducible rfl
          rotate_left
          · simp only [Act.put, List.setIfInBounds_toArray, List.set_cons_zero, List.set_cons_succ, i64_w, i32_w]
            rfl
          refine take_ (i := 5) (N := some 34) (v := ?_) (a' := ?_) #[true, true, true, true, true, true, true, false] rfl rfl (take_ofW HT_.out HW_.out (by kernel_rfl)) (fun _ _ _ h => h) (Or.inl ⟨by rfl, ?_⟩) hHeld ?_ ?_
          rotate_left
          · rintro w' ⟨s0, s1⟩
            go_simp
            with_reducible rfl
          rotate_left
          · simp only [Act.put, List.setIfInBounds_toArray, List.set_cons_zero, List.set_cons_succ, i64_w, i32_w]
            rfl
          refine pure_ (i := 7) (N := some 7) (v := ?_) (a' := ?_) #[true, true, true, true, true, true, true, true] rfl rfl (any_of HT_.out (by kernel_rfl)) (fun _ _ _ h => h) (Or.inl ⟨by rfl, ?_⟩) ?_ ?_
          rotate_left
          · intro w'
            go_simp
            with_reducible rfl
          rotate_left
          · simp only [Act.put, List.setIfInBounds_toArray, List.set_cons_zero, List.set_cons_succ, i64_w, i32_w]
            rfl
          refine done_ (done_of HT_.out (by kernel_rfl)) ?_
          try go_wp2_with (first | ((with_reducible refine gate_callee (f := 74) rfl ?_); refine goesL_ (some 36) rfl rfl Try.func74 (by kernel_rfl) rfl #[.pointer (some ⟨g, 0, none⟩), .int .i64 4] rfl (by (try simp only [List.map_toArray, List.map_cons, List.map_nil]); first | done | rfl | (simp only [List.length_drop, List.length_take]; rfl)) ?_; (with_reducible refine (spec_l01Next.calls g s0_0 t314 t315 4 t319 t320 t321 w0 _ ?side1 ?side2 A7.out).mono ?_); (case side1 => repeat (first | (with_reducible first | exact HI0.out | apply IsS102.alloc | apply IsS102.drewN | apply IsS102.drew | apply IsS102.set_1 | apply IsS102.set_2) | exact HI0.out)); (case side2 => repeat (first | (with_reducible first | exact HB.out | apply below_alloc | apply pw_below_drewN | apply below_drew1 | refine below_set ?_ (IsS102.ge HI0.out)) | exact HB.out)); rintro e w37 ⟨rfl, hi, hb, hk⟩; refine ⟨_, rfl, ?_⟩; have n0_ := Aside0.mk (Kd.N_mono (Kd.N_keep (Kd.N_mono (ok := fun k_ => k_ ≠ g) (by (with_reducible repeat (first | apply Kd.N_alloc | apply Kd.N_drewN | apply Kd.N_drew)); exact HO312.out) (fun k_ hk_ => (⟨hk_, hk_⟩ : _ ∧ k_ ≠ g))) hk (fun _ h => h.2)) (fun _ h => h.1)); have n1_ := Aside0.mk (Kd.V_mono (Kd.V_keep (Kd.V_mono (ok := fun k_ => (k_ ≠ g ∧ some k_ ≠ (.slice (some ad316) y310.length co35 : Value).ownBlock)) (by (with_reducible repeat (first | apply Kd.V_alloc | apply Kd.V_drewN | apply Kd.V_drew)); exact HL316_0.out) (fun k_ hk_ => (⟨hk_, hk_.1⟩ : _ ∧ k_ ≠ g))) hk (fun _ h => h.2)) (fun _ h => h.1)); have n2_ := Aside0.mk (KeepBut.trans (by repeat (first | (with_reducible first | exact HK.out | apply KeepBut.set_ | apply keep_drewN | apply keep_drew | apply keep_alloc) | exact HK.out)) hk (.inl rfl)); have n3_ := Aside0.mk (hb); have n4_ := Aside0.mk (hi); clear HO312; clear HL316_0; clear HK; clear HB; clear HI0; have HO312 := n0_; have HL316_0 := n1_; have HK := n2_; have HB := n3_; have HI0 := n4_; clear n0_ n1_ n2_ n3_ n4_; (try clear hb); (try clear hb2); (try clear hk); (try clear hi)) | ((with_reducible refine gate_dst (N := 38) rfl ?_); refine Kd.R_lit k24 _ 24 ?hg (N := 38) ?hd (xs := ([] : List (S24))) (inner := []) (ok := fun _ => True) (okp := fun _ => True) ?hr ?hp (fun _ hk => hk) trivial (Below.refl _ _) (Nat.le_refl _) (by simp) ?_; (case hd => rfl); (case hg => rfl); (case hr => first | (go_simp; done) | (go_simp; rfl)); (case hp => exact (Reps.none _ _)); intro v323 w38 ho39 hb hg_ hnew_; clear hg_ hnew_; (first | rw [← Ny322.out] at ho39 | (simp only [Int.reduceToNat] at ho39; rw [← Ny322.out] at ho39)); have n0_ := Aside0.mk (Kd.N_elder' (by (with_reducible repeat (first | apply Kd.N_alloc | apply Kd.N_drewN | apply Kd.N_drew)); exact HO312.out) (Kd.R_base ho39) hb); have n1_ := Aside0.mk (Kd.V_elder' (by (with_reducible repeat (first | apply Kd.V_alloc | apply Kd.V_drewN | apply Kd.V_drew)); exact HL316_0.out) (Kd.R_base ho39) hb); have n2_ := Aside0.mk (Kd.R_lower ho39 (keep_size (w := w) (g := g) (row := none) (by repeat (first | (with_reducible first | exact HK.out | apply KeepBut.set_ | apply keep_drewN | apply keep_drew | apply keep_alloc) | exact HK.out)))); have n3_ := Aside0.mk (IsS102.below (by repeat (first | (with_reducible first | exact HI0.out | apply IsS102.alloc | apply IsS102.drewN | apply IsS102.drew | apply IsS102.set_1 | apply IsS102.set_2) | exact HI0.out)) hb); have n4_ := Aside0.mk (KeepBut.trans (by repeat (first | (with_reducible first | exact HK.out | apply KeepBut.set_ | apply keep_drewN | apply keep_drew | apply keep_alloc) | exact HK.out)) (KeepBut.of_below hb g none) (.inl rfl)); have n5_ := Aside0.mk (below_step (by repeat (first | (with_reducible first | exact HB.out | apply below_alloc | apply pw_below_drewN | apply below_drew1 | refine below_set ?_ (IsS102.ge HI0.out)) | exact HB.out)) hb); clear HO312; clear HL316_0; clear HI0; clear HK; clear HB; have HO312 := n0_; have HL316_0 := n1_; have HO324 := n2_; have HI0 := n3_; have HK := n4_; have HB := n5_; clear n0_ n1_ n2_ n3_ n4_ n5_; clear hb ho39))
          go_loopg [9, 10] k (fun kq v9 v10 w' => ∃ (x9_1 : List (S24)) (x10_1 : Int) (x1001_1 : Int) (x1002_1 : Int), v10 = .int .i64 x10_1 ∧ Aside0 (spec_l30Draw.l0 kq (rd (rd_L4 y310 t313) 0) (rd (rd_L4 y310 t313) 1) (wrap64 (1 + t319)) x9_1 x10_1 s0_0 x1001_1 x1002_1 = some (r1, r2, r3, r4, r5)) ∧ Aside0 (kq ≤ k) ∧ Aside0 (Kd.R k24 24 w' w.heap.size (fun _ => True) v9 x9_1) ∧ Aside0 (IsS102 w0 w' g s0_0 x1001_1 x1002_1) ∧ Aside0 (KeepBut w w' g none) ∧ Aside0 (Below w0.heap.size w0 w'))
          case atStart => exact ⟨(y322), (0), (t320), (t321), (by first | rfl | (simp; done) | (simp [*]; done)), H', ⟨Nat.le_refl _⟩, ⟨by (with_reducible repeat (first | apply Kd.R_alloc | apply Kd.R_drewN | apply Kd.R_drew)); exact HO324.out⟩, ⟨by repeat (first | (with_reducible first | exact HI0.out | apply IsS102.alloc | apply IsS102.drewN | apply IsS102.drew | apply IsS102.set_1 | apply IsS102.set_2) | exact HI0.out)⟩, ⟨by repeat (first | (with_reducible first | exact HK.out | apply KeepBut.set_ | apply keep_drewN | apply keep_drew | apply keep_alloc) | exact HK.out)⟩, ⟨by repeat (first | (with_reducible first | exact HB.out | apply below_alloc | apply pw_below_drewN | apply below_drew1 | refine below_set ?_ (IsS102.ge HI0.out)) | exact HB.out)⟩⟩
          case round =>
            clear H'
            try clear p2
            try clear c3
            try clear c3b0
            try clear p3
            try clear q3
            try clear hx3
            try clear qi3
            try clear c4
            try clear c4b0
            try clear c5
            try clear c5b0
            try clear c5b1
            try clear c6
            try clear c6b0
            try clear c6b1
            try clear p6
            try clear c7
            try clear c31
            try clear p31
            try clear q31
            try clear hx31
            try clear qi31
            try clear hx316_0
            try clear hx317_0
            try clear hx318_0
            try clear p316
            try clear p317
            try clear p318
            try clear q316
            try clear q317
            try clear q318
            obtain ⟨x9_1, x10_1, x1001_1, x1002_1, rfl, HA, HK1, HO_9, HI0, HK, HB⟩ := hrel
            cases gk with
            | zero => exact absurd HA.out (by simp [spec_l30Draw.l0])
            | succ k1 =>
              have H := HA.out
              clear HA
              simp only [spec_l30Draw.l0] at H
              by_cases c40 : x10_1 < (wrap64 ((rd (rd_L4 y310 t313) 0) * (rd (rd_L4 y310 t313) 1)))
              · rw [if_pos c40] at H
                have c40b0 : decide (x10_1 < (wrap64 ((rd (rd_L4 y310 t313) 0) * (rd (rd_L4 y310 t313) 1)))) = true := decide_eq_true c40
                clear c40
                by_cases c41 : (rd (rd_L4 y310 t313) 0) = 0
                · rw [if_pos c41] at H
                  exact absurd H (by simp)
                · rw [if_neg c41] at H
                  have c41b0 : ((rd (rd_L4 y310 t313) 0) == 0) = false := beq_eq_false_iff_ne.mpr c41
                  have c41b1 : ((rd (rd_L4 y310 t313) 0) != 0) = true := bne_iff_ne.mpr c41
                  have HC42 := Aside0.mk H
                  clear H
                  go_upto_if 50 with (first | ((with_reducible refine gate_dst (N := 11) rfl ?_); refine box_event ?hg (N := 11) ?hd (cs := #[.int .i64 0, .int .i64 0, .int .i64 0, .int .i64 0]) (t := 24) ?hr ?_; (case hd => rfl); (case hg => rfl); (case hr => first | (go_simp; done) | (go_simp; rfl)); intro gb325 hg w43 hbox hb; have n0_ := Aside0.mk (Kd.R_below (Kd.R_elderB (by (with_reducible repeat (first | apply Kd.R_alloc | apply Kd.R_drewN | apply Kd.R_drew)); exact HO_9.out) gb325 (Nat.le_of_eq hg.symm)) hb); have n1_ := Aside0.mk (IsS102.below (by repeat (first | (with_reducible first | exact HI0.out | apply IsS102.alloc | apply IsS102.drewN | apply IsS102.drew | apply IsS102.set_1 | apply IsS102.set_2) | exact HI0.out)) hb); have n2_ := Aside0.mk (KeepBut.trans (by repeat (first | (with_reducible first | exact HK.out | apply KeepBut.set_ | apply keep_drewN | apply keep_drew | apply keep_alloc) | exact HK.out)) (KeepBut.of_below hb g none) (.inl rfl)); have n3_ := Aside0.mk (below_step (by repeat (first | (with_reducible first | exact HB.out | apply below_alloc | apply pw_below_drewN | apply below_drew1 | refine below_set ?_ (IsS102.ge HI0.out)) | exact HB.out)) hb); have n4_ := Aside0.mk (hbox); have n5_ := Aside0.mk ((by rw [hg]; exact (keep_size (w := w) (g := g) (row := none) (by repeat (first | (with_reducible first | exact HK.out | apply KeepBut.set_ | apply keep_drewN | apply keep_drew | apply keep_alloc) | exact HK.out))) : w.heap.size ≤ gb325)); have n6_ := Aside0.mk ((Nat.le_trans HW0.out (by rw [hg]; exact (keep_size (w := w) (g := g) (row := none) (by repeat (first | (with_reducible first | exact HK.out | apply KeepBut.set_ | apply keep_drewN | apply keep_drew | apply keep_alloc) | exact HK.out))) : w.heap.size ≤ gb325) : w0.heap.size ≤ gb325)); have n7_ := Aside0.mk ((by rw [hg]; exact Nat.ne_of_lt (IsS102.lt (show IsS102 w0 _ g s0_0 x1001_1 x1002_1 from by repeat (first | (with_reducible first | exact HI0.out | apply IsS102.alloc | apply IsS102.drewN | apply IsS102.drew | apply IsS102.set_1 | apply IsS102.set_2) | exact HI0.out))) : g ≠ gb325)); have n8_ := Aside0.mk ((by rw [hg]; exact Nat.ne_of_gt (IsS102.lt (show IsS102 w0 _ g s0_0 x1001_1 x1002_1 from by repeat (first | (with_reducible first | exact HI0.out | apply IsS102.alloc | apply IsS102.drewN | apply IsS102.drew | apply IsS102.set_1 | apply IsS102.set_2) | exact HI0.out))) : gb325 ≠ g)); clear HO_9; clear HI0; clear HK; clear HB; have HO_9 := n0_; have HI0 := n1_; have HK := n2_; have HB := n3_; have BK325 := n4_; have GW325 := n5_; have GE325 := n6_; have NB0_325 := n7_; have NB325_0 := n8_; clear n0_ n1_ n2_ n3_ n4_ n5_ n6_ n7_ n8_; clear hb hbox hg; have hnb44 := NB325_0.out; have hnc44 := NB0_325.out; have hcz45_0 : w43.cell? ⟨gb325, 0, none⟩ = some (.int .i64 0) := (blk_cell BK325.out 0).trans rfl; have hcz45_1 : w43.cell? ⟨gb325, 1, none⟩ = some (.int .i64 0) := (blk_cell BK325.out 1).trans rfl; have hcz45_2 : w43.cell? ⟨gb325, 2, none⟩ = some (.int .i64 0) := (blk_cell BK325.out 2).trans rfl; have hcz45_3 : w43.cell? ⟨gb325, 3, none⟩ = some (.int .i64 0) := (blk_cell BK325.out 3).trans rfl; have hfz45_0 := blk_frozen BK325.out 0; have hfz45_1 := blk_frozen BK325.out 1; have hfz45_2 := blk_frozen BK325.out 2; have hfz45_3 := blk_frozen BK325.out 3))
                  (try simp only [Act.put, List.setIfInBounds_toArray, List.set_cons_zero, List.set_cons_succ])
                  go_cut [] (fun wc => ∃ (kq : Nat) (x326003_41 : Int), Aside0 (spec_l30Draw.j1 kq (rd (rd_L4 y310 t313) 0) (rd (rd_L4 y310 t313) 1) (wrap64 (1 + t319)) x9_1 x10_1 s0_0 x1001_1 x1002_1 0 0 0 x326003_41 = some (r1, r2, r3, r4, r5)) ∧ Aside0 (kq ≤ k1) ∧ Aside0 (Kd.R k24 24 wc w.heap.size (fun k_ => k_ ≠ gb325) u9 x9_1) ∧ Aside0 (wc.heap[gb325]? = some (.cells #[.int .i64 0, .int .i64 0, .int .i64 0, .int .i64 x326003_41] 24 (0, 0))) ∧ Aside0 (IsS102 w0 wc g s0_0 x1001_1 x1002_1) ∧ Aside0 (KeepBut w wc g none) ∧ Aside0 (Below w0.heap.size w0 wc))
                  case first =>
                    have H := HC42.out
                    clear HC42
                    by_cases c46 : (Int.tmod x10_1 (rd (rd_L4 y310 t313) 0)) > 0
                    · rw [if_pos c46] at H
                      have c46b0 : decide (0 < (Int.tmod x10_1 (rd (rd_L4 y310 t313) 0))) = true := decide_eq_true c46
                      clear c46
                      (first | rw [c46b0] | (simp only [i64_w, i32_w]; rw [c46b0]) | skip)
                      obtain ⟨ji47, hji47⟩ : ∃ j_ : Int, (wrap64 (x10_1 - 1)) = j_ := ⟨_, rfl⟩
                      replace H : (if 0 ≤ (ji47) then (if (ji47) < (x9_1.length : Int) then (spec_l30Draw.j1 k1 (rd (rd_L4 y310 t313) 0) (rd (rd_L4 y310 t313) 1) (wrap64 (1 + t319)) x9_1 x10_1 s0_0 x1001_1 x1002_1 0 0 0 (wrap64 (-((rd_T24 x9_1 (ji47)).f1)))) else (none)) else (none)) = some (r1, r2, r3, r4, r5) := by first | (rw [hji47] at H; exact H) | (simp only [hji47] at H ⊢; exact H)
                      have hji47w : (IntKind.i64.wrap (x10_1 - 1)) = ji47 := (i64_w _).trans hji47
                      by_cases c48 : 0 ≤ (ji47)
                      · rw [if_pos c48] at H
                        have c48b0 : decide (0 ≤ (ji47)) = true := decide_eq_true c48
                        clear c48
                        by_cases c49 : (ji47) < (x9_1.length : Int)
                        · rw [if_pos c49] at H
                          have c49b0 : decide ((ji47) < (x9_1.length : Int)) = true := decide_eq_true c49
                          clear c49
                          have H' := Aside0.mk H
                          clear H
                          obtain ⟨Ao50, co50, eo50⟩ := Kd.R_slice HO_9.out
                          subst eo50
                          have p326 : 0 ≤ ((ji47) : Int) := of_decide_eq_true (by first | (with_reducible assumption) | assumption)
                          have q326 : (ji47) < (x9_1.length : Int) := of_decide_eq_true (by first | (with_reducible assumption) | assumption)
                          obtain ⟨ad326, e326, hx326_0, hx326_1, hx326_2, hx326_3⟩ := at_T24 (Kd.R_reads' HO_9.out).2.2 (ji47) p326 q326
                          cases e326
                          have hn326_0 : ad326.block ≠ gb325 := Kd.own_blk (Kd.R_away HO_9.out (fun _ hk => hk.2))
                          have hn326_1 : ad326.block ≠ gb325 := Kd.own_blk (Kd.R_away HO_9.out (fun _ hk => hk.2))
                          have hn326_2 : ad326.block ≠ gb325 := Kd.own_blk (Kd.R_away HO_9.out (fun _ hk => hk.2))
                          have hn326_3 : ad326.block ≠ gb325 := Kd.own_blk (Kd.R_away HO_9.out (fun _ hk => hk.2))
                          replace hx326_0 := (cell_far (p := ⟨gb325, 0, none⟩) (by first | (rw [add_block]; exact hn326_0) | (show (Addr.add _ _).block ≠ _; rw [add_block]; exact hn326_0) | exact hn326_0) (.int .i64 0)).trans hx326_0
                          replace hx326_1 := (cell_far (p := ⟨gb325, 0, none⟩) (by first | (rw [add_block]; exact hn326_0) | (show (Addr.add _ _).block ≠ _; rw [add_block]; exact hn326_0) | exact hn326_0) (.int .i64 0)).trans hx326_1
                          replace hx326_2 := (cell_far (p := ⟨gb325, 0, none⟩) (by first | (rw [add_block]; exact hn326_0) | (show (Addr.add _ _).block ≠ _; rw [add_block]; exact hn326_0) | exact hn326_0) (.int .i64 0)).trans hx326_2
                          replace hx326_3 := (cell_far (p := ⟨gb325, 0, none⟩) (by first | (rw [add_block]; exact hn326_0) | (show (Addr.add _ _).block ≠ _; rw [add_block]; exact hn326_0) | exact hn326_0) (.int .i64 0)).trans hx326_3
                          replace hx326_0 := (cell_far (p := ⟨gb325, 1, none⟩) (by first | (rw [add_block]; exact hn326_1) | (show (Addr.add _ _).block ≠ _; rw [add_block]; exact hn326_1) | exact hn326_1) (.int .i64 0)).trans hx326_0
                          replace hx326_1 := (cell_far (p := ⟨gb325, 1, none⟩) (by first | (rw [add_block]; exact hn326_1) | (show (Addr.add _ _).block ≠ _; rw [add_block]; exact hn326_1) | exact hn326_1) (.int .i64 0)).trans hx326_1
                          replace hx326_2 := (cell_far (p := ⟨gb325, 1, none⟩) (by first | (rw [add_block]; exact hn326_1) | (show (Addr.add _ _).block ≠ _; rw [add_block]; exact hn326_1) | exact hn326_1) (.int .i64 0)).trans hx326_2
                          replace hx326_3 := (cell_far (p := ⟨gb325, 1, none⟩) (by first | (rw [add_block]; exact hn326_1) | (show (Addr.add _ _).block ≠ _; rw [add_block]; exact hn326_1) | exact hn326_1) (.int .i64 0)).trans hx326_3
                          replace hx326_0 := (cell_far (p := ⟨gb325, 2, none⟩) (by first | (rw [add_block]; exact hn326_2) | (show (Addr.add _ _).block ≠ _; rw [add_block]; exact hn326_2) | exact hn326_2) (.int .i64 0)).trans hx326_0
                          replace hx326_1 := (cell_far (p := ⟨gb325, 2, none⟩) (by first | (rw [add_block]; exact hn326_2) | (show (Addr.add _ _).block ≠ _; rw [add_block]; exact hn326_2) | exact hn326_2) (.int .i64 0)).trans hx326_1
                          replace hx326_2 := (cell_far (p := ⟨gb325, 2, none⟩) (by first | (rw [add_block]; exact hn326_2) | (show (Addr.add _ _).block ≠ _; rw [add_block]; exact hn326_2) | exact hn326_2) (.int .i64 0)).trans hx326_2
                          replace hx326_3 := (cell_far (p := ⟨gb325, 2, none⟩) (by first | (rw [add_block]; exact hn326_2) | (show (Addr.add _ _).block ≠ _; rw [add_block]; exact hn326_2) | exact hn326_2) (.int .i64 0)).trans hx326_3
                          replace hx326_0 := (cell_far (p := ⟨gb325, 3, none⟩) (by first | (rw [add_block]; exact hn326_3) | (show (Addr.add _ _).block ≠ _; rw [add_block]; exact hn326_3) | exact hn326_3) (.int .i64 0)).trans hx326_0
                          replace hx326_1 := (cell_far (p := ⟨gb325, 3, none⟩) (by first | (rw [add_block]; exact hn326_3) | (show (Addr.add _ _).block ≠ _; rw [add_block]; exact hn326_3) | exact hn326_3) (.int .i64 0)).trans hx326_1
                          replace hx326_2 := (cell_far (p := ⟨gb325, 3, none⟩) (by first | (rw [add_block]; exact hn326_3) | (show (Addr.add _ _).block ≠ _; rw [add_block]; exact hn326_3) | exact hn326_3) (.int .i64 0)).trans hx326_2
                          replace hx326_3 := (cell_far (p := ⟨gb325, 3, none⟩) (by first | (rw [add_block]; exact hn326_3) | (show (Addr.add _ _).block ≠ _; rw [add_block]; exact hn326_3) | exact hn326_3) (.int .i64 0)).trans hx326_3
                          clear hn326_0
                          clear hn326_1
                          clear hn326_2
                          clear hn326_3
                          replace p326 := eq_true p326
                          replace q326 := eq_true q326
                          have hnb51 := NB325_0.out
                          have hnc51 := NB0_325.out
                          have hcz52_0 : w43.cell? ⟨gb325, 0, none⟩ = some (.int .i64 0) := (blk_cell BK325.out 0).trans rfl
                          have hcz52_1 : w43.cell? ⟨gb325, 1, none⟩ = some (.int .i64 0) := (blk_cell BK325.out 1).trans rfl
                          have hcz52_2 : w43.cell? ⟨gb325, 2, none⟩ = some (.int .i64 0) := (blk_cell BK325.out 2).trans rfl
                          have hcz52_3 : w43.cell? ⟨gb325, 3, none⟩ = some (.int .i64 0) := (blk_cell BK325.out 3).trans rfl
                          have hfz52_0 := blk_frozen BK325.out 0
                          have hfz52_1 := blk_frozen BK325.out 1
                          have hfz52_2 := blk_frozen BK325.out 2
                          have hfz52_3 := blk_frozen BK325.out 3
                          go_wp2
                          go_meet
                          case rel => exact ⟨_, (wrap64 (-((rd_T24 x9_1 (ji47)).f1))), H', ⟨by have := HK1.out; first | omega | exact Nat.le_refl _⟩, ⟨by (with_reducible repeat (first | apply Kd.R_alloc | apply Kd.R_drewN | apply Kd.R_drew)); exact Kd.R_mono (Kd.R_far (p := ⟨gb325, 3, none⟩) (Kd.R_far (p := ⟨gb325, 3, none⟩) (Kd.R_far (p := ⟨gb325, 2, none⟩) (Kd.R_far (p := ⟨gb325, 1, none⟩) (Kd.R_far (p := ⟨gb325, 0, none⟩) (Kd.R_mono HO_9.out (fun k_ hk => (⟨hk, hk.2⟩ : _ ∧ k_ ≠ gb325))) (fun _ hk => hk.2) (.int .i64 0)) (fun _ hk => hk.2) (.int .i64 0)) (fun _ hk => hk.2) (.int .i64 0)) (fun _ hk => hk.2) (.int .i64 0)) (fun _ hk => hk.2) (.int .i64 (wrap64 (-((rd_T24 x9_1 (ji47)).f1))))) (fun _ hk => hk.1.2)⟩, ⟨by (with_reducible repeat (first | refine blk_drewN ?_ _ | refine blk_drew ?_ | refine blk_alloc ?_ _)); refine blk_put (cs := #[.int .i64 0, .int .i64 0, .int .i64 0, .int .i64 0]) ?_ 3 _ rfl; (with_reducible repeat (first | refine blk_drewN ?_ _ | refine blk_drew ?_ | refine blk_alloc ?_ _)); refine blk_put (cs := #[.int .i64 0, .int .i64 0, .int .i64 0, .int .i64 0]) ?_ 3 _ rfl; (with_reducible repeat (first | refine blk_drewN ?_ _ | refine blk_drew ?_ | refine blk_alloc ?_ _)); refine blk_put (cs := #[.int .i64 0, .int .i64 0, .int .i64 0, .int .i64 0]) ?_ 2 _ rfl; (with_reducible repeat (first | refine blk_drewN ?_ _ | refine blk_drew ?_ | refine blk_alloc ?_ _)); refine blk_put (cs := #[.int .i64 0, .int .i64 0, .int .i64 0, .int .i64 0]) ?_ 1 _ rfl; (with_reducible repeat (first | refine blk_drewN ?_ _ | refine blk_drew ?_ | refine blk_alloc ?_ _)); refine blk_put (cs := #[.int .i64 0, .int .i64 0, .int .i64 0, .int .i64 0]) ?_ 0 _ rfl; (with_reducible repeat (first | refine blk_drewN ?_ _ | refine blk_drew ?_ | refine blk_alloc ?_ _)); exact BK325.out⟩, ⟨by repeat (first | (with_reducible first | exact HI0.out | apply IsS102.alloc | apply IsS102.drewN | apply IsS102.drew | apply IsS102.set_1 | apply IsS102.set_2 | refine IsS102.far ?_ NB0_325.out _) | exact HI0.out)⟩, ⟨by repeat (first | (with_reducible first | exact HK.out | apply KeepBut.set_ | apply keep_drewN | apply keep_drew | apply keep_alloc | refine keep_far ?_ GW325.out _) | exact HK.out)⟩, ⟨by repeat (first | (with_reducible first | exact HB.out | apply below_alloc | apply pw_below_drewN | apply below_drew1 | refine below_set ?_ (IsS102.ge HI0.out) | refine below_set ?_ GE325.out) | exact HB.out)⟩⟩
                        · rw [if_neg c49] at H
                          exact absurd H (by simp)
                      · rw [if_neg c48] at H
                        exact absurd H (by simp)
                    · rw [if_neg c46] at H
                      have c46b0 : decide (0 < (Int.tmod x10_1 (rd (rd_L4 y310 t313) 0))) = false := decide_eq_false c46
                      clear c46
                      (first | rw [c46b0] | (simp only [i64_w, i32_w]; rw [c46b0]) | skip)
                      have H' := Aside0.mk H
                      clear H
                      go_wp2
                      go_meet
                      case rel => exact ⟨_, (0), H', ⟨by have := HK1.out; first | omega | exact Nat.le_refl _⟩, ⟨by (with_reducible repeat (first | apply Kd.R_alloc | apply Kd.R_drewN | apply Kd.R_drew)); exact Kd.R_mono (Kd.R_far (p := ⟨gb325, 3, none⟩) (Kd.R_far (p := ⟨gb325, 2, none⟩) (Kd.R_far (p := ⟨gb325, 1, none⟩) (Kd.R_far (p := ⟨gb325, 0, none⟩) (Kd.R_mono HO_9.out (fun k_ hk => (⟨hk, hk.2⟩ : _ ∧ k_ ≠ gb325))) (fun _ hk => hk.2) (.int .i64 0)) (fun _ hk => hk.2) (.int .i64 0)) (fun _ hk => hk.2) (.int .i64 0)) (fun _ hk => hk.2) (.int .i64 0)) (fun _ hk => hk.1.2)⟩, ⟨by (with_reducible repeat (first | refine blk_drewN ?_ _ | refine blk_drew ?_ | refine blk_alloc ?_ _)); refine blk_put (cs := #[.int .i64 0, .int .i64 0, .int .i64 0, .int .i64 0]) ?_ 3 _ rfl; (with_reducible repeat (first | refine blk_drewN ?_ _ | refine blk_drew ?_ | refine blk_alloc ?_ _)); refine blk_put (cs := #[.int .i64 0, .int .i64 0, .int .i64 0, .int .i64 0]) ?_ 2 _ rfl; (with_reducible repeat (first | refine blk_drewN ?_ _ | refine blk_drew ?_ | refine blk_alloc ?_ _)); refine blk_put (cs := #[.int .i64 0, .int .i64 0, .int .i64 0, .int .i64 0]) ?_ 1 _ rfl; (with_reducible repeat (first | refine blk_drewN ?_ _ | refine blk_drew ?_ | refine blk_alloc ?_ _)); refine blk_put (cs := #[.int .i64 0, .int .i64 0, .int .i64 0, .int .i64 0]) ?_ 0 _ rfl; (with_reducible repeat (first | refine blk_drewN ?_ _ | refine blk_drew ?_ | refine blk_alloc ?_ _)); exact BK325.out⟩, ⟨by repeat (first | (with_reducible first | exact HI0.out | apply IsS102.alloc | apply IsS102.drewN | apply IsS102.drew | apply IsS102.set_1 | apply IsS102.set_2 | refine IsS102.far ?_ NB0_325.out _) | exact HI0.out)⟩, ⟨by repeat (first | (with_reducible first | exact HK.out | apply KeepBut.set_ | apply keep_drewN | apply keep_drew | apply keep_alloc | refine keep_far ?_ GW325.out _) | exact HK.out)⟩, ⟨by repeat (first | (with_reducible first | exact HB.out | apply below_alloc | apply pw_below_drewN | apply below_drew1 | refine below_set ?_ (IsS102.ge HI0.out) | refine below_set ?_ GE325.out) | exact HB.out)⟩⟩
                  case rest =>
                    clear HC42
                    try clear p2
                    try clear c3
                    try clear c3b0
                    try clear p3
                    try clear q3
                    try clear hx3
                    try clear qi3
                    try clear c4
                    try clear c4b0
                    try clear c5
                    try clear c5b0
                    try clear c5b1
                    try clear c6
                    try clear c6b0
                    try clear c6b1
                    try clear p6
                    try clear c7
                    try clear c31
                    try clear p31
                    try clear q31
                    try clear hx31
                    try clear qi31
                    try clear p32
                    try clear q32
                    try clear hx32
                    try clear c40
                    try clear c40b0
                    try clear c41
                    try clear c41b0
                    try clear c41b1
                    try clear c44
                    try clear c46
                    try clear c46b0
                    try clear c48
                    try clear c48b0
                    try clear c49
                    try clear c49b0
                    try clear c51
                    try clear hcz45_0
                    try clear hcz45_1
                    try clear hcz45_2
                    try clear hcz45_3
                    try clear hcz52_0
                    try clear hcz52_1
                    try clear hcz52_2
                    try clear hcz52_3
                    try clear hfz45_0
                    try clear hfz45_1
                    try clear hfz45_2
                    try clear hfz45_3
                    try clear hfz52_0
                    try clear hfz52_1
                    try clear hfz52_2
                    try clear hfz52_3
                    try clear hx316_0
                    try clear hx317_0
                    try clear hx318_0
                    try clear hx326_0
                    try clear hx326_1
                    try clear hx326_2
                    try clear hx326_3
                    try clear p2
                    try clear p3
                    try clear p31
                    try clear p316
                    try clear p317
                    try clear p318
                    try clear p326
                    try clear p6
                    try clear q3
                    try clear q31
                    try clear q316
                    try clear q317
                    try clear q318
                    try clear q326
                    obtain ⟨kq, x326003_41, HA, HJ41, HO_9, BK325, HI0, HK, HB⟩ := hcut
                    cases kq with
                    | zero => exact absurd HA.out (by simp [spec_l30Draw.j1])
                    | succ kj41 =>
                      have H := HA.out
                      clear HA
                      simp only [spec_l30Draw.j1] at H
                      have HC53 := Aside0.mk H
                      clear H
                      go_upto_if 61 with (fail)
                      go_cut [] (fun wc => ∃ (kq : Nat) (x326000_52 : Int), Aside0 (spec_l30Draw.j2 kq (rd (rd_L4 y310 t313) 0) (rd (rd_L4 y310 t313) 1) (wrap64 (1 + t319)) x9_1 x10_1 s0_0 x1001_1 x1002_1 x326000_52 0 0 x326003_41 = some (r1, r2, r3, r4, r5)) ∧ Aside0 (kq ≤ kj41) ∧ Aside0 (Kd.R k24 24 wc w.heap.size (fun k_ => k_ ≠ gb325) u9 x9_1) ∧ Aside0 (wc.heap[gb325]? = some (.cells #[.int .i64 x326000_52, .int .i64 0, .int .i64 0, .int .i64 x326003_41] 24 (0, 0))) ∧ Aside0 (IsS102 w0 wc g s0_0 x1001_1 x1002_1) ∧ Aside0 (KeepBut w wc g none) ∧ Aside0 (Below w0.heap.size w0 wc))
                      case first =>
                        have H := HC53.out
                        clear HC53
                        by_cases c54 : x10_1 ≥ (rd (rd_L4 y310 t313) 0)
                        · rw [if_pos c54] at H
                          have c54b0 : decide ((rd (rd_L4 y310 t313) 0) ≤ x10_1) = true := decide_eq_true c54
                          clear c54
                          (first | rw [c54b0] | (simp only [i64_w, i32_w]; rw [c54b0]) | skip)
                          obtain ⟨ji55, hji55⟩ : ∃ j_ : Int, (wrap64 (x10_1 - (rd (rd_L4 y310 t313) 0))) = j_ := ⟨_, rfl⟩
                          replace H : (if 0 ≤ (ji55) then (if (ji55) < (x9_1.length : Int) then (spec_l30Draw.j2 kj41 (rd (rd_L4 y310 t313) 0) (rd (rd_L4 y310 t313) 1) (wrap64 (1 + t319)) x9_1 x10_1 s0_0 x1001_1 x1002_1 (wrap64 (-((rd_T24 x9_1 (ji55)).f2))) 0 0 x326003_41) else (none)) else (none)) = some (r1, r2, r3, r4, r5) := by first | (rw [hji55] at H; exact H) | (simp only [hji55] at H ⊢; exact H)
                          have hji55w : (IntKind.i64.wrap (x10_1 - (rd (rd_L4 y310 t313) 0))) = ji55 := (i64_w _).trans hji55
                          by_cases c56 : 0 ≤ (ji55)
                          · rw [if_pos c56] at H
                            have c56b0 : decide (0 ≤ (ji55)) = true := decide_eq_true c56
                            clear c56
                            by_cases c57 : (ji55) < (x9_1.length : Int)
                            · rw [if_pos c57] at H
                              have c57b0 : decide ((ji55) < (x9_1.length : Int)) = true := decide_eq_true c57
                              clear c57
                              have H' := Aside0.mk H
                              clear H
                              obtain ⟨Ao58, co58, eo58⟩ := Kd.R_slice HO_9.out
                              subst eo58
                              have p327 : 0 ≤ ((ji55) : Int) := of_decide_eq_true (by first | (with_reducible assumption) | assumption)
                              have q327 : (ji55) < (x9_1.length : Int) := of_decide_eq_true (by first | (with_reducible assumption) | assumption)
                              obtain ⟨ad327, e327, hx327_0, hx327_1, hx327_2, hx327_3⟩ := at_T24 (Kd.R_reads' HO_9.out).2.2 (ji55) p327 q327
                              cases e327
                              replace p327 := eq_true p327
                              replace q327 := eq_true q327
                              have hnb59 := NB325_0.out
                              have hnc59 := NB0_325.out
                              have hcz60_0 : wc.cell? ⟨gb325, 0, none⟩ = some (.int .i64 0) := (blk_cell BK325.out 0).trans rfl
                              have hcz60_1 : wc.cell? ⟨gb325, 1, none⟩ = some (.int .i64 0) := (blk_cell BK325.out 1).trans rfl
                              have hcz60_2 : wc.cell? ⟨gb325, 2, none⟩ = some (.int .i64 0) := (blk_cell BK325.out 2).trans rfl
                              have hcz60_3 : wc.cell? ⟨gb325, 3, none⟩ = some (.int .i64 x326003_41) := (blk_cell BK325.out 3).trans rfl
                              have hfz60_0 := blk_frozen BK325.out 0
                              have hfz60_1 := blk_frozen BK325.out 1
                              have hfz60_2 := blk_frozen BK325.out 2
                              have hfz60_3 := blk_frozen BK325.out 3
                              go_wp2
                              go_meet
                              case rel => exact ⟨_, (wrap64 (-((rd_T24 x9_1 (ji55)).f2))), H', ⟨by have := HK1.out; have := HJ41.out; first | omega | exact Nat.le_refl _⟩, ⟨by (with_reducible repeat (first | apply Kd.R_alloc | apply Kd.R_drewN | apply Kd.R_drew)); exact Kd.R_mono (Kd.R_far (p := ⟨gb325, 0, none⟩) (Kd.R_mono HO_9.out (fun k_ hk => (⟨hk, hk⟩ : _ ∧ k_ ≠ gb325))) (fun _ hk => hk.2) (.int .i64 (wrap64 (-((rd_T24 x9_1 (ji55)).f2))))) (fun _ hk => hk.1)⟩, ⟨by (with_reducible repeat (first | refine blk_drewN ?_ _ | refine blk_drew ?_ | refine blk_alloc ?_ _)); refine blk_put (cs := #[.int .i64 0, .int .i64 0, .int .i64 0, .int .i64 x326003_41]) ?_ 0 _ rfl; (with_reducible repeat (first | refine blk_drewN ?_ _ | refine blk_drew ?_ | refine blk_alloc ?_ _)); exact BK325.out⟩, ⟨by repeat (first | (with_reducible first | exact HI0.out | apply IsS102.alloc | apply IsS102.drewN | apply IsS102.drew | apply IsS102.set_1 | apply IsS102.set_2 | refine IsS102.far ?_ NB0_325.out _) | exact HI0.out)⟩, ⟨by repeat (first | (with_reducible first | exact HK.out | apply KeepBut.set_ | apply keep_drewN | apply keep_drew | apply keep_alloc | refine keep_far ?_ GW325.out _) | exact HK.out)⟩, ⟨by repeat (first | (with_reducible first | exact HB.out | apply below_alloc | apply pw_below_drewN | apply below_drew1 | refine below_set ?_ (IsS102.ge HI0.out) | refine below_set ?_ GE325.out) | exact HB.out)⟩⟩
                            · rw [if_neg c57] at H
                              exact absurd H (by simp)
                          · rw [if_neg c56] at H
                            exact absurd H (by simp)
                        · rw [if_neg c54] at H
                          have c54b0 : decide ((rd (rd_L4 y310 t313) 0) ≤ x10_1) = false := decide_eq_false c54
                          clear c54
                          (first | rw [c54b0] | (simp only [i64_w, i32_w]; rw [c54b0]) | skip)
                          have H' := Aside0.mk H
                          clear H
                          go_wp2
                          go_meet
                          case rel => exact ⟨_, (0), H', ⟨by have := HK1.out; have := HJ41.out; first | omega | exact Nat.le_refl _⟩, ⟨by (with_reducible repeat (first | apply Kd.R_alloc | apply Kd.R_drewN | apply Kd.R_drew)); exact HO_9.out⟩, ⟨by (with_reducible repeat (first | refine blk_drewN ?_ _ | refine blk_drew ?_ | refine blk_alloc ?_ _)); exact BK325.out⟩, ⟨by repeat (first | (with_reducible first | exact HI0.out | apply IsS102.alloc | apply IsS102.drewN | apply IsS102.drew | apply IsS102.set_1 | apply IsS102.set_2 | refine IsS102.far ?_ NB0_325.out _) | exact HI0.out)⟩, ⟨by repeat (first | (with_reducible first | exact HK.out | apply KeepBut.set_ | apply keep_drewN | apply keep_drew | apply keep_alloc | refine keep_far ?_ GW325.out _) | exact HK.out)⟩, ⟨by repeat (first | (with_reducible first | exact HB.out | apply below_alloc | apply pw_below_drewN | apply below_drew1 | refine below_set ?_ (IsS102.ge HI0.out) | refine below_set ?_ GE325.out) | exact HB.out)⟩⟩
                      case rest =>
                        clear HC53
                        try clear p2
                        try clear c3
                        try clear c3b0
                        try clear p3
                        try clear q3
                        try clear hx3
                        try clear qi3
                        try clear c4
                        try clear c4b0
                        try clear c5
                        try clear c5b0
                        try clear c5b1
                        try clear c6
                        try clear c6b0
                        try clear c6b1
                        try clear p6
                        try clear c7
                        try clear c31
                        try clear p31
                        try clear q31
                        try clear hx31
                        try clear qi31
                        try clear p32
                        try clear q32
                        try clear hx32
                        try clear c40
                        try clear c40b0
                        try clear c41
                        try clear c41b0
                        try clear c41b1
                        try clear c44
                        try clear c46
                        try clear c46b0
                        try clear c48
                        try clear c48b0
                        try clear c49
                        try clear c49b0
                        try clear c51
                        try clear c54
                        try clear c54b0
                        try clear c56
                        try clear c56b0
                        try clear c57
                        try clear c57b0
                        try clear c59
                        try clear hcz45_0
                        try clear hcz45_1
                        try clear hcz45_2
                        try clear hcz45_3
                        try clear hcz52_0
                        try clear hcz52_1
                        try clear hcz52_2
                        try clear hcz52_3
                        try clear hcz60_0
                        try clear hcz60_1
                        try clear hcz60_2
                        try clear hcz60_3
                        try clear hfz45_0
                        try clear hfz45_1
                        try clear hfz45_2
                        try clear hfz45_3
                        try clear hfz52_0
                        try clear hfz52_1
                        try clear hfz52_2
                        try clear hfz52_3
                        try clear hfz60_0
                        try clear hfz60_1
                        try clear hfz60_2
                        try clear hfz60_3
                        try clear hx316_0
                        try clear hx317_0
                        try clear hx318_0
                        try clear hx326_0
                        try clear hx326_1
                        try clear hx326_2
                        try clear hx326_3
                        try clear hx327_0
                        try clear hx327_1
                        try clear hx327_2
                        try clear hx327_3
                        try clear p2
                        try clear p3
                        try clear p31
                        try clear p316
                        try clear p317
                        try clear p318
                        try clear p32
                        try clear p326
                        try clear p327
                        try clear p6
                        try clear q3
                        try clear q31
                        try clear q316
                        try clear q317
                        try clear q318
                        try clear q32
                        try clear q326
                        try clear q327
                        obtain ⟨kq, x326000_52, HA, HJ52, HO_9, BK325, HI0, HK, HB⟩ := hcut
                        cases kq with
                        | zero => exact absurd HA.out (by simp [spec_l30Draw.j2])
                        | succ kj52 =>
                          have H := HA.out
                          clear HA
                          simp only [spec_l30Draw.j2] at H
                          by_cases c61 : (rd (rd_L4 y310 t313) 0) = 0
                          · rw [if_pos c61] at H
                            exact absurd H (by simp)
                          · rw [if_neg c61] at H
                            have c61b0 : ((rd (rd_L4 y310 t313) 0) == 0) = false := beq_eq_false_iff_ne.mpr c61
                            have c61b1 : ((rd (rd_L4 y310 t313) 0) != 0) = true := bne_iff_ne.mpr c61
                            have HC62 := Aside0.mk H
                            clear H
                            go_upto_if 76 with (fail)
                            go_cut [] (fun wc => ∃ (kq : Nat) (x1001_61 : Int) (x1002_61 : Int) (x326001_61 : Int), Aside0 (spec_l30Draw.j3 kq (rd (rd_L4 y310 t313) 0) (rd (rd_L4 y310 t313) 1) (wrap64 (1 + t319)) x9_1 x10_1 s0_0 x1001_61 x1002_61 x326000_52 x326001_61 0 x326003_41 = some (r1, r2, r3, r4, r5)) ∧ Aside0 (kq ≤ kj52) ∧ Aside0 (Kd.R k24 24 wc w.heap.size (fun k_ => k_ ≠ gb325) u9 x9_1) ∧ Aside0 (wc.heap[gb325]? = some (.cells #[.int .i64 x326000_52, .int .i64 x326001_61, .int .i64 0, .int .i64 x326003_41] 24 (0, 0))) ∧ Aside0 (IsS102 w0 wc g s0_0 x1001_61 x1002_61) ∧ Aside0 (KeepBut w wc g none) ∧ Aside0 (Below w0.heap.size w0 wc))
                            case first =>
                              have H := HC62.out
                              clear HC62
                              by_cases c63 : (Int.tmod x10_1 (rd (rd_L4 y310 t313) 0)) < (wrap64 ((rd (rd_L4 y310 t313) 0) - 1))
                              · rw [if_pos c63] at H
                                have c63b0 : decide ((Int.tmod x10_1 (rd (rd_L4 y310 t313) 0)) < (wrap64 ((rd (rd_L4 y310 t313) 0) - 1))) = true := decide_eq_true c63
                                clear c63
                                (first | rw [c63b0] | (simp only [i64_w, i32_w]; rw [c63b0]) | skip)
                                replace H := Option.bind_eq_some_iff.mp H
                                obtain ⟨⟨t328, t329, t330⟩, A640, H⟩ := H
                                replace H : ((spec_l01Next.f s0_0 t329 t330 2).bind fun bt331 => (spec_l30Draw.j3 kj52 (rd (rd_L4 y310 t313) 0) (rd (rd_L4 y310 t313) 1) (wrap64 (1 + t319)) x9_1 x10_1 s0_0 bt331.2.1 bt331.2.2 x326000_52 (wrap64 ((wrap64 (1 + t328)) * (wrap64 (1 - (wrap64 (2 * bt331.1)))))) 0 x326003_41)) = some (r1, r2, r3, r4, r5) := H
                                have A64 := Aside0.mk A640
                                clear A640
                                replace H := Option.bind_eq_some_iff.mp H
                                obtain ⟨⟨t331, t332, t333⟩, A650, H⟩ := H
                                replace H : (spec_l30Draw.j3 kj52 (rd (rd_L4 y310 t313) 0) (rd (rd_L4 y310 t313) 1) (wrap64 (1 + t319)) x9_1 x10_1 s0_0 t332 t333 x326000_52 (wrap64 ((wrap64 (1 + t328)) * (wrap64 (1 - (wrap64 (2 * t331)))))) 0 x326003_41) = some (r1, r2, r3, r4, r5) := H
                                have A65 := Aside0.mk A650
                                clear A650
                                have H' := Aside0.mk H
                                clear H
                                go_wp2_with (first | ((with_reducible refine gate_callee (f := 74) rfl ?_); refine goesL_ (some 79) rfl rfl Try.func74 (by kernel_rfl) rfl #[.pointer (some ⟨g, 0, none⟩), .int .i64 (wrap64 (1 + t319))] rfl (by (try simp only [List.map_toArray, List.map_cons, List.map_nil]); first | done | rfl | (simp only [List.length_drop, List.length_take]; rfl)) ?_; (with_reducible refine (spec_l01Next.calls g s0_0 x1001_1 x1002_1 (wrap64 (1 + t319)) t328 t329 t330 w0 _ ?side1 ?side2 A64.out).mono ?_); (case side1 => repeat (first | (with_reducible first | exact HI0.out | apply IsS102.alloc | apply IsS102.drewN | apply IsS102.drew | apply IsS102.set_1 | apply IsS102.set_2 | refine IsS102.far ?_ NB0_325.out _) | exact HI0.out)); (case side2 => repeat (first | (with_reducible first | exact HB.out | apply below_alloc | apply pw_below_drewN | apply below_drew1 | refine below_set ?_ (IsS102.ge HI0.out) | refine below_set ?_ GE325.out) | exact HB.out)); rintro e w66 ⟨rfl, hi, hb, hk⟩; refine ⟨_, rfl, ?_⟩; have n0_ := Aside0.mk (Kd.R_mono (Kd.R_keep (IsS102.apart (show IsS102 w0 _ g s0_0 x1001_1 x1002_1 from by repeat (first | (with_reducible first | exact HI0.out | apply IsS102.alloc | apply IsS102.drewN | apply IsS102.drew | apply IsS102.set_1 | apply IsS102.set_2 | refine IsS102.far ?_ NB0_325.out _) | exact HI0.out)) (by (with_reducible repeat (first | apply Kd.R_alloc | apply Kd.R_drewN | apply Kd.R_drew)); exact HO_9.out) (by decide)) hk (fun _ h => h.2)) (fun _ h => h.1)); have n1_ := Aside0.mk (KeepBut.blk hk (g' := gb325) (o := .cells #[.int .i64 x326000_52, .int .i64 0, .int .i64 0, .int .i64 x326003_41] 24 (0, 0)) (by (with_reducible repeat (first | refine blk_drewN ?_ _ | refine blk_drew ?_ | refine blk_alloc ?_ _)); exact BK325.out) NB325_0.out (by simp)); have n2_ := Aside0.mk (KeepBut.trans (by repeat (first | (with_reducible first | exact HK.out | apply KeepBut.set_ | apply keep_drewN | apply keep_drew | apply keep_alloc | refine keep_far ?_ GW325.out _) | exact HK.out)) hk (.inl rfl)); have n3_ := Aside0.mk (hb); have n4_ := Aside0.mk (hi); clear HO_9; clear BK325; clear HK; clear HB; clear HI0; have HO_9 := n0_; have BK325 := n1_; have HK := n2_; have HB := n3_; have HI0 := n4_; clear n0_ n1_ n2_ n3_ n4_; (try clear hb); (try clear hb2); (try clear hk); (try clear hi)) | ((with_reducible refine gate_callee (f := 74) rfl ?_); refine goesL_ (some 82) rfl rfl Try.func74 (by kernel_rfl) rfl #[.pointer (some ⟨g, 0, none⟩), .int .i64 2] rfl (by (try simp only [List.map_toArray, List.map_cons, List.map_nil]); first | done | rfl | (simp only [List.length_drop, List.length_take]; rfl)) ?_; (with_reducible refine (spec_l01Next.calls g s0_0 t329 t330 2 t331 t332 t333 w0 _ ?side1 ?side2 A65.out).mono ?_); (case side1 => repeat (first | (with_reducible first | exact HI0.out | apply IsS102.alloc | apply IsS102.drewN | apply IsS102.drew | apply IsS102.set_1 | apply IsS102.set_2 | refine IsS102.far ?_ NB0_325.out _) | exact HI0.out)); (case side2 => repeat (first | (with_reducible first | exact HB.out | apply below_alloc | apply pw_below_drewN | apply below_drew1 | refine below_set ?_ (IsS102.ge HI0.out) | refine below_set ?_ GE325.out) | exact HB.out)); rintro e w67 ⟨rfl, hi, hb, hk⟩; refine ⟨_, rfl, ?_⟩; have n0_ := Aside0.mk (Kd.R_mono (Kd.R_keep (IsS102.apart (show IsS102 w0 _ g s0_0 t329 t330 from by repeat (first | (with_reducible first | exact HI0.out | apply IsS102.alloc | apply IsS102.drewN | apply IsS102.drew | apply IsS102.set_1 | apply IsS102.set_2 | refine IsS102.far ?_ NB0_325.out _) | exact HI0.out)) (by (with_reducible repeat (first | apply Kd.R_alloc | apply Kd.R_drewN | apply Kd.R_drew)); exact HO_9.out) (by decide)) hk (fun _ h => h.2)) (fun _ h => h.1)); have n1_ := Aside0.mk (KeepBut.blk hk (g' := gb325) (o := .cells #[.int .i64 x326000_52, .int .i64 0, .int .i64 0, .int .i64 x326003_41] 24 (0, 0)) (by (with_reducible repeat (first | refine blk_drewN ?_ _ | refine blk_drew ?_ | refine blk_alloc ?_ _)); exact BK325.out) NB325_0.out (by simp)); have n2_ := Aside0.mk (KeepBut.trans (by repeat (first | (with_reducible first | exact HK.out | apply KeepBut.set_ | apply keep_drewN | apply keep_drew | apply keep_alloc | refine keep_far ?_ GW325.out _) | exact HK.out)) hk (.inl rfl)); have n3_ := Aside0.mk (hb); have n4_ := Aside0.mk (hi); clear HO_9; clear BK325; clear HK; clear HB; clear HI0; have HO_9 := n0_; have BK325 := n1_; have HK := n2_; have HB := n3_; have HI0 := n4_; clear n0_ n1_ n2_ n3_ n4_; (try clear hb); (try clear hb2); (try clear hk); (try clear hi); have hnb68 := NB325_0.out; have hnc68 := NB0_325.out; have hcz69_0 : w67.cell? ⟨gb325, 0, none⟩ = some (.int .i64 x326000_52) := (blk_cell BK325.out 0).trans rfl; have hcz69_1 : w67.cell? ⟨gb325, 1, none⟩ = some (.int .i64 0) := (blk_cell BK325.out 1).trans rfl; have hcz69_2 : w67.cell? ⟨gb325, 2, none⟩ = some (.int .i64 0) := (blk_cell BK325.out 2).trans rfl; have hcz69_3 : w67.cell? ⟨gb325, 3, none⟩ = some (.int .i64 x326003_41) := (blk_cell BK325.out 3).trans rfl; have hfz69_0 := blk_frozen BK325.out 0; have hfz69_1 := blk_frozen BK325.out 1; have hfz69_2 := blk_frozen BK325.out 2; have hfz69_3 := blk_frozen BK325.out 3))
                                go_meet
                                case rel => exact ⟨_, (t332), (t333), (wrap64 ((wrap64 (1 + t328)) * (wrap64 (1 - (wrap64 (2 * t331)))))), H', ⟨by have := HK1.out; have := HJ41.out; have := HJ52.out; first | omega | exact Nat.le_refl _⟩, ⟨by (with_reducible repeat (first | apply Kd.R_alloc | apply Kd.R_drewN | apply Kd.R_drew)); exact Kd.R_mono (Kd.R_far (p := ⟨gb325, 1, none⟩) (Kd.R_mono HO_9.out (fun k_ hk => (⟨hk, hk⟩ : _ ∧ k_ ≠ gb325))) (fun _ hk => hk.2) (.int .i64 (wrap64 ((wrap64 (1 + t328)) * (wrap64 (1 - (wrap64 (2 * t331)))))))) (fun _ hk => hk.1)⟩, ⟨by (with_reducible repeat (first | refine blk_drewN ?_ _ | refine blk_drew ?_ | refine blk_alloc ?_ _)); refine blk_put (cs := #[.int .i64 x326000_52, .int .i64 0, .int .i64 0, .int .i64 x326003_41]) ?_ 1 _ rfl; (with_reducible repeat (first | refine blk_drewN ?_ _ | refine blk_drew ?_ | refine blk_alloc ?_ _)); exact BK325.out⟩, ⟨by repeat (first | (with_reducible first | exact HI0.out | apply IsS102.alloc | apply IsS102.drewN | apply IsS102.drew | apply IsS102.set_1 | apply IsS102.set_2 | refine IsS102.far ?_ NB0_325.out _) | exact HI0.out)⟩, ⟨by repeat (first | (with_reducible first | exact HK.out | apply KeepBut.set_ | apply keep_drewN | apply keep_drew | apply keep_alloc | refine keep_far ?_ GW325.out _) | exact HK.out)⟩, ⟨by repeat (first | (with_reducible first | exact HB.out | apply below_alloc | apply pw_below_drewN | apply below_drew1 | refine below_set ?_ (IsS102.ge HI0.out) | refine below_set ?_ GE325.out) | exact HB.out)⟩⟩
                              · rw [if_neg c63] at H
                                have c63b0 : decide ((Int.tmod x10_1 (rd (rd_L4 y310 t313) 0)) < (wrap64 ((rd (rd_L4 y310 t313) 0) - 1))) = false := decide_eq_false c63
                                clear c63
                                (first | rw [c63b0] | (simp only [i64_w, i32_w]; rw [c63b0]) | skip)
                                have H' := Aside0.mk H
                                clear H
                                go_wp2
                                go_meet
                                case rel => exact ⟨_, (x1001_1), (x1002_1), (0), H', ⟨by have := HK1.out; have := HJ41.out; have := HJ52.out; first | omega | exact Nat.le_refl _⟩, ⟨by (with_reducible repeat (first | apply Kd.R_alloc | apply Kd.R_drewN | apply Kd.R_drew)); exact HO_9.out⟩, ⟨by (with_reducible repeat (first | refine blk_drewN ?_ _ | refine blk_drew ?_ | refine blk_alloc ?_ _)); exact BK325.out⟩, ⟨by repeat (first | (with_reducible first | exact HI0.out | apply IsS102.alloc | apply IsS102.drewN | apply IsS102.drew | apply IsS102.set_1 | apply IsS102.set_2 | refine IsS102.far ?_ NB0_325.out _) | exact HI0.out)⟩, ⟨by repeat (first | (with_reducible first | exact HK.out | apply KeepBut.set_ | apply keep_drewN | apply keep_drew | apply keep_alloc | refine keep_far ?_ GW325.out _) | exact HK.out)⟩, ⟨by repeat (first | (with_reducible first | exact HB.out | apply below_alloc | apply pw_below_drewN | apply below_drew1 | refine below_set ?_ (IsS102.ge HI0.out) | refine below_set ?_ GE325.out) | exact HB.out)⟩⟩
                            case rest =>
                              clear HC62
                              try clear p2
                              try clear c3
                              try clear c3b0
                              try clear p3
                              try clear q3
                              try clear hx3
                              try clear qi3
                              try clear c4
                              try clear c4b0
                              try clear c5
                              try clear c5b0
                              try clear c5b1
                              try clear c6
                              try clear c6b0
                              try clear c6b1
                              try clear p6
                              try clear c7
                              try clear c31
                              try clear p31
                              try clear q31
                              try clear hx31
                              try clear qi31
                              try clear p32
                              try clear q32
                              try clear hx32
                              try clear c40
                              try clear c40b0
                              try clear c41
                              try clear c41b0
                              try clear c41b1
                              try clear c44
                              try clear c46
                              try clear c46b0
                              try clear c48
                              try clear c48b0
                              try clear c49
                              try clear c49b0
                              try clear c51
                              try clear c54
                              try clear c54b0
                              try clear c56
                              try clear c56b0
                              try clear c57
                              try clear c57b0
                              try clear c59
                              try clear c61
                              try clear c61b0
                              try clear c61b1
                              try clear c63
                              try clear c63b0
                              try clear p64
                              try clear c68
                              try clear hcz45_0
                              try clear hcz45_1
                              try clear hcz45_2
                              try clear hcz45_3
                              try clear hcz52_0
                              try clear hcz52_1
                              try clear hcz52_2
                              try clear hcz52_3
                              try clear hcz60_0
                              try clear hcz60_1
                              try clear hcz60_2
                              try clear hcz60_3
                              try clear hcz69_0
                              try clear hcz69_1
                              try clear hcz69_2
                              try clear hcz69_3
                              try clear hfz45_0
                              try clear hfz45_1
                              try clear hfz45_2
                              try clear hfz45_3
                              try clear hfz52_0
                              try clear hfz52_1
                              try clear hfz52_2
                              try clear hfz52_3
                              try clear hfz60_0
                              try clear hfz60_1
                              try clear hfz60_2
                              try clear hfz60_3
                              try clear hfz69_0
                              try clear hfz69_1
                              try clear hfz69_2
                              try clear hfz69_3
                              try clear hx316_0
                              try clear hx317_0
                              try clear hx318_0
                              try clear hx326_0
                              try clear hx326_1
                              try clear hx326_2
                              try clear hx326_3
                              try clear hx327_0
                              try clear hx327_1
                              try clear hx327_2
                              try clear hx327_3
                              try clear p2
                              try clear p3
                              try clear p31
                              try clear p316
                              try clear p317
                              try clear p318
                              try clear p32
                              try clear p326
                              try clear p327
                              try clear p6
                              try clear q3
                              try clear q31
                              try clear q316
                              try clear q317
                              try clear q318
                              try clear q32
                              try clear q326
                              try clear q327
                              obtain ⟨kq, x1001_61, x1002_61, x326001_61, HA, HJ61, HO_9, BK325, HI0, HK, HB⟩ := hcut
                              cases kq with
                              | zero => exact absurd HA.out (by simp [spec_l30Draw.j3])
                              | succ kj61 =>
                                have H := HA.out
                                clear HA
                                simp only [spec_l30Draw.j3] at H
                                by_cases c70 : (wrap64 (x10_1 + (rd (rd_L4 y310 t313) 0))) < (wrap64 ((rd (rd_L4 y310 t313) 0) * (rd (rd_L4 y310 t313) 1)))
                                · rw [if_pos c70] at H
                                  have c70b0 : decide ((wrap64 (x10_1 + (rd (rd_L4 y310 t313) 0))) < (wrap64 ((rd (rd_L4 y310 t313) 0) * (rd (rd_L4 y310 t313) 1)))) = true := decide_eq_true c70
                                  clear c70
                                  replace H := Option.bind_eq_some_iff.mp H
                                  obtain ⟨⟨t334, t335, t336⟩, A710, H⟩ := H
                                  replace H : ((spec_l01Next.f s0_0 t335 t336 2).bind fun bt337 => (if x9_1.length < 4398046511104 then (spec_l30Draw.l0 kj61 (rd (rd_L4 y310 t313) 0) (rd (rd_L4 y310 t313) 1) (wrap64 (1 + t319)) (x9_1 ++ [(⟨x326000_52, x326001_61, wrap64 ((wrap64 (1 + t334)) * (wrap64 (1 - (wrap64 (2 * bt337.1))))), x326003_41⟩ : S24)]) (wrap64 (x10_1 + 1)) s0_0 bt337.2.1 bt337.2.2) else (none))) = some (r1, r2, r3, r4, r5) := H
                                  have A71 := Aside0.mk A710
                                  clear A710
                                  replace H := Option.bind_eq_some_iff.mp H
                                  obtain ⟨⟨t337, t338, t339⟩, A720, H⟩ := H
                                  replace H : (if x9_1.length < 4398046511104 then (spec_l30Draw.l0 kj61 (rd (rd_L4 y310 t313) 0) (rd (rd_L4 y310 t313) 1) (wrap64 (1 + t319)) (x9_1 ++ [(⟨x326000_52, x326001_61, wrap64 ((wrap64 (1 + t334)) * (wrap64 (1 - (wrap64 (2 * t337))))), x326003_41⟩ : S24)]) (wrap64 (x10_1 + 1)) s0_0 t338 t339) else (none)) = some (r1, r2, r3, r4, r5) := H
                                  have A72 := Aside0.mk A720
                                  clear A720
                                  by_cases c73 : x9_1.length < 4398046511104
                                  · rw [if_pos c73] at H
                                    have LMc73 := Aside0.mk c73
                                    clear c73
                                    obtain ⟨y340, hy340⟩ : ∃ y_ : List (S24), y_ = (x9_1 ++ [(⟨x326000_52, x326001_61, wrap64 ((wrap64 (1 + t334)) * (wrap64 (1 - (wrap64 (2 * t337))))), x326003_41⟩ : S24)]) := ⟨_, rfl⟩
                                    replace H : (spec_l30Draw.l0 kj61 (rd (rd_L4 y310 t313) 0) (rd (rd_L4 y310 t313) 1) (wrap64 (1 + t319)) y340 (wrap64 (x10_1 + 1)) s0_0 t338 t339) = some (r1, r2, r3, r4, r5) := by first | (rw [hy340]; with_reducible exact H) | (have H2_ := (Option.bind_some _ _).symm.trans H; rw [hy340]; with_reducible exact H2_) | (have H2_ := (Option.bind_some _ _).symm.trans H; with_reducible exact H2_) | with_reducible exact H | (rw [hy340]; exact H) | exact H
                                    have Ny340 := Aside0.mk hy340
                                    clear hy340
                                    have H' := Aside0.mk H
                                    clear H
                                    go_wp2_with (first | ((with_reducible refine gate_callee (f := 74) rfl ?_); refine goesL_ (some 96) rfl rfl Try.func74 (by kernel_rfl) rfl #[.pointer (some ⟨g, 0, none⟩), .int .i64 (wrap64 (1 + t319))] rfl (by (try simp only [List.map_toArray, List.map_cons, List.map_nil]); first | done | rfl | (simp only [List.length_drop, List.length_take]; rfl)) ?_; (with_reducible refine (spec_l01Next.calls g s0_0 x1001_61 x1002_61 (wrap64 (1 + t319)) t334 t335 t336 w0 _ ?side1 ?side2 A71.out).mono ?_); (case side1 => repeat (first | (with_reducible first | exact HI0.out | apply IsS102.alloc | apply IsS102.drewN | apply IsS102.drew | apply IsS102.set_1 | apply IsS102.set_2 | refine IsS102.far ?_ NB0_325.out _) | exact HI0.out)); (case side2 => repeat (first | (with_reducible first | exact HB.out | apply below_alloc | apply pw_below_drewN | apply below_drew1 | refine below_set ?_ (IsS102.ge HI0.out) | refine below_set ?_ GE325.out) | exact HB.out)); rintro e w74 ⟨rfl, hi, hb, hk⟩; refine ⟨_, rfl, ?_⟩; have n0_ := Aside0.mk (Kd.R_mono (Kd.R_keep (IsS102.apart (show IsS102 w0 _ g s0_0 x1001_61 x1002_61 from by repeat (first | (with_reducible first | exact HI0.out | apply IsS102.alloc | apply IsS102.drewN | apply IsS102.drew | apply IsS102.set_1 | apply IsS102.set_2 | refine IsS102.far ?_ NB0_325.out _) | exact HI0.out)) (by (with_reducible repeat (first | apply Kd.R_alloc | apply Kd.R_drewN | apply Kd.R_drew)); exact HO_9.out) (by decide)) hk (fun _ h => h.2)) (fun _ h => h.1)); have n1_ := Aside0.mk (KeepBut.blk hk (g' := gb325) (o := .cells #[.int .i64 x326000_52, .int .i64 x326001_61, .int .i64 0, .int .i64 x326003_41] 24 (0, 0)) (by (with_reducible repeat (first | refine blk_drewN ?_ _ | refine blk_drew ?_ | refine blk_alloc ?_ _)); exact BK325.out) NB325_0.out (by simp)); have n2_ := Aside0.mk (KeepBut.trans (by repeat (first | (with_reducible first | exact HK.out | apply KeepBut.set_ | apply keep_drewN | apply keep_drew | apply keep_alloc | refine keep_far ?_ GW325.out _) | exact HK.out)) hk (.inl rfl)); have n3_ := Aside0.mk (hb); have n4_ := Aside0.mk (hi); clear HO_9; clear BK325; clear HK; clear HB; clear HI0; have HO_9 := n0_; have BK325 := n1_; have HK := n2_; have HB := n3_; have HI0 := n4_; clear n0_ n1_ n2_ n3_ n4_; (try clear hb); (try clear hb2); (try clear hk); (try clear hi)) | ((with_reducible refine gate_callee (f := 74) rfl ?_); refine goesL_ (some 99) rfl rfl Try.func74 (by kernel_rfl) rfl #[.pointer (some ⟨g, 0, none⟩), .int .i64 2] rfl (by (try simp only [List.map_toArray, List.map_cons, List.map_nil]); first | done | rfl | (simp only [List.length_drop, List.length_take]; rfl)) ?_; (with_reducible refine (spec_l01Next.calls g s0_0 t335 t336 2 t337 t338 t339 w0 _ ?side1 ?side2 A72.out).mono ?_); (case side1 => repeat (first | (with_reducible first | exact HI0.out | apply IsS102.alloc | apply IsS102.drewN | apply IsS102.drew | apply IsS102.set_1 | apply IsS102.set_2 | refine IsS102.far ?_ NB0_325.out _) | exact HI0.out)); (case side2 => repeat (first | (with_reducible first | exact HB.out | apply below_alloc | apply pw_below_drewN | apply below_drew1 | refine below_set ?_ (IsS102.ge HI0.out) | refine below_set ?_ GE325.out) | exact HB.out)); rintro e w75 ⟨rfl, hi, hb, hk⟩; refine ⟨_, rfl, ?_⟩; have n0_ := Aside0.mk (Kd.R_mono (Kd.R_keep (IsS102.apart (show IsS102 w0 _ g s0_0 t335 t336 from by repeat (first | (with_reducible first | exact HI0.out | apply IsS102.alloc | apply IsS102.drewN | apply IsS102.drew | apply IsS102.set_1 | apply IsS102.set_2 | refine IsS102.far ?_ NB0_325.out _) | exact HI0.out)) (by (with_reducible repeat (first | apply Kd.R_alloc | apply Kd.R_drewN | apply Kd.R_drew)); exact HO_9.out) (by decide)) hk (fun _ h => h.2)) (fun _ h => h.1)); have n1_ := Aside0.mk (KeepBut.blk hk (g' := gb325) (o := .cells #[.int .i64 x326000_52, .int .i64 x326001_61, .int .i64 0, .int .i64 x326003_41] 24 (0, 0)) (by (with_reducible repeat (first | refine blk_drewN ?_ _ | refine blk_drew ?_ | refine blk_alloc ?_ _)); exact BK325.out) NB325_0.out (by simp)); have n2_ := Aside0.mk (KeepBut.trans (by repeat (first | (with_reducible first | exact HK.out | apply KeepBut.set_ | apply keep_drewN | apply keep_drew | apply keep_alloc | refine keep_far ?_ GW325.out _) | exact HK.out)) hk (.inl rfl)); have n3_ := Aside0.mk (hb); have n4_ := Aside0.mk (hi); clear HO_9; clear BK325; clear HK; clear HB; clear HI0; have HO_9 := n0_; have BK325 := n1_; have HK := n2_; have HB := n3_; have HI0 := n4_; clear n0_ n1_ n2_ n3_ n4_; (try clear hb); (try clear hb2); (try clear hk); (try clear hi); have hnb76 := NB325_0.out; have hnc76 := NB0_325.out; have hcz77_0 : w75.cell? ⟨gb325, 0, none⟩ = some (.int .i64 x326000_52) := (blk_cell BK325.out 0).trans rfl; have hcz77_1 : w75.cell? ⟨gb325, 1, none⟩ = some (.int .i64 x326001_61) := (blk_cell BK325.out 1).trans rfl; have hcz77_2 : w75.cell? ⟨gb325, 2, none⟩ = some (.int .i64 0) := (blk_cell BK325.out 2).trans rfl; have hcz77_3 : w75.cell? ⟨gb325, 3, none⟩ = some (.int .i64 x326003_41) := (blk_cell BK325.out 3).trans rfl; have hfz77_0 := blk_frozen BK325.out 0; have hfz77_1 := blk_frozen BK325.out 1; have hfz77_2 := blk_frozen BK325.out 2; have hfz77_3 := blk_frozen BK325.out 3) | ((with_reducible refine gate_builtin (b := .append) (xs := #[.tmp 104, .tmp 106]) rfl ?_); at_builtin; refine Kd.R_append k24 w.heap.size rfl (.tmp 104) (.tmp 106) 34 24 (.agg #[(.int .i64 0), (.int .i64 0), (.int .i64 0), (.int .i64 0)]) 32 rfl Try.underlying34 info24 rfl (by decide) (by omega) u9 x9_1 (⟨x326000_52, x326001_61, wrap64 ((wrap64 (1 + t334)) * (wrap64 (1 - (wrap64 (2 * t337))))), x326003_41⟩ : S24) [.int .i64 x326000_52, .int .i64 x326001_61, .int .i64 (wrap64 ((wrap64 (1 + t334)) * (wrap64 (1 - (wrap64 (2 * t337)))))), .int .i64 x326003_41] (fun k_ => k_ ≠ gb325) (fun _ => False) rfl (by first | (go_simp; done) | (go_simp; rfl)) ?aP (fun _ hk => hk.elim) ?aF ?aO (Below.refl _ _) ?aS ?aL ?_; (case aP => exact k24_mkM _ _ _ (⟨x326000_52, x326001_61, wrap64 ((wrap64 (1 + t334)) * (wrap64 (1 - (wrap64 (2 * t337))))), x326003_41⟩ : S24)); (case aF => exact (fun k_ hk => Kd.freshB (g := gb325) (o := .cells #[.int .i64 x326000_52, .int .i64 x326001_61, .int .i64 (wrap64 ((wrap64 (1 + t334)) * (wrap64 (1 - (wrap64 (2 * t337)))))), .int .i64 x326003_41] 24 (0, 0)) (by (with_reducible repeat (first | refine blk_drewN ?_ _ | refine blk_drew ?_ | refine blk_alloc ?_ _)); refine blk_put (cs := #[.int .i64 x326000_52, .int .i64 x326001_61, .int .i64 0, .int .i64 x326003_41]) ?_ 2 _ rfl; (with_reducible repeat (first | refine blk_drewN ?_ _ | refine blk_drew ?_ | refine blk_alloc ?_ _)); exact BK325.out) k_ hk)); (case aO => exact (by (with_reducible repeat (first | apply Kd.R_alloc | apply Kd.R_drewN | apply Kd.R_drew)); exact Kd.R_mono (Kd.R_far (p := ⟨gb325, 2, none⟩) (Kd.R_mono HO_9.out (fun k_ hk => (⟨hk, hk⟩ : _ ∧ k_ ≠ gb325))) (fun _ hk => hk.2) (.int .i64 (wrap64 ((wrap64 (1 + t334)) * (wrap64 (1 - (wrap64 (2 * t337)))))))) (fun _ hk => hk.1))); (case aS => exact (keep_size (w := w) (g := g) (row := none) (by repeat (first | (with_reducible first | exact HK.out | apply KeepBut.set_ | apply keep_drewN | apply keep_drew | apply keep_alloc | refine keep_far ?_ GW325.out _) | exact HK.out)))); (case aL => have := LMc73.out; omega); intro v341 w78 ho hb hg hat; rw [← Ny340.out] at ho; have n0_ := Aside0.mk (blk_grown (g := gb325) (o := .cells #[.int .i64 x326000_52, .int .i64 x326001_61, .int .i64 (wrap64 ((wrap64 (1 + t334)) * (wrap64 (1 - (wrap64 (2 * t337)))))), .int .i64 x326003_41] 24 (0, 0)) (by (with_reducible repeat (first | refine blk_drewN ?_ _ | refine blk_drew ?_ | refine blk_alloc ?_ _)); refine blk_put (cs := #[.int .i64 x326000_52, .int .i64 x326001_61, .int .i64 0, .int .i64 x326003_41]) ?_ 2 _ rfl; (with_reducible repeat (first | refine blk_drewN ?_ _ | refine blk_drew ?_ | refine blk_alloc ?_ _)); exact BK325.out) hg (Kd.R_away HO_9.out (fun _ hk => hk))); have n1_ := Aside0.mk (IsS102.grown (IsS102.far HI0.out NB0_325.out _) hg (IsS102.own_ne HI0.out HO_9.out (by decide))); have n2_ := Aside0.mk (below_weaken (by repeat (first | (with_reducible first | exact HB.out | apply below_alloc | apply pw_below_drewN | apply below_drew1 | refine below_set ?_ (IsS102.ge HI0.out) | refine below_set ?_ GE325.out) | exact HB.out)) HL.out hb); have n3_ := Aside0.mk (KeepBut.trans (by repeat (first | (with_reducible first | exact HK.out | apply KeepBut.set_ | apply keep_drewN | apply keep_drew | apply keep_alloc | refine keep_far ?_ GW325.out _) | exact HK.out)) (KeepBut.of_grown hg g) (Kd.R_base2 HO_9.out)); have n4_ := Aside0.mk (ho); clear BK325; clear HI0; clear HB; clear HK; clear HO_9; have BK325 := n0_; have HI0 := n1_; have HB := n2_; have HK := n3_; have HO342 := n4_; clear n0_ n1_ n2_ n3_ n4_; clear ho hb hg hat))
                                    go_roundg kj61
                                    case measure => have := HK1.out; have := HJ41.out; have := HJ52.out; have := HJ61.out; omega
                                    case rel => exact ⟨(y340), (wrap64 (x10_1 + 1)), (t338), (t339), (by first | rfl | (simp; done) | (simp [*]; done)), H', ⟨by have := HK1.out; have := HJ41.out; have := HJ52.out; have := HJ61.out; omega⟩, ⟨by (with_reducible repeat (first | apply Kd.R_alloc | apply Kd.R_drewN | apply Kd.R_drew)); exact Kd.R_mono HO342.out (fun _ hk => trivial)⟩, ⟨by repeat (first | (with_reducible first | exact HI0.out | apply IsS102.alloc | apply IsS102.drewN | apply IsS102.drew | apply IsS102.set_1 | apply IsS102.set_2 | refine IsS102.far ?_ NB0_325.out _) | exact HI0.out)⟩, ⟨by repeat (first | (with_reducible first | exact HK.out | apply KeepBut.set_ | apply keep_drewN | apply keep_drew | apply keep_alloc | refine keep_far ?_ GW325.out _) | exact HK.out)⟩, ⟨by repeat (first | (with_reducible first | exact HB.out | apply below_alloc | apply pw_below_drewN | apply below_drew1 | refine below_set ?_ (IsS102.ge HI0.out) | refine below_set ?_ GE325.out) | exact HB.out)⟩⟩
                                  · rw [if_neg c73] at H
                                    exact absurd H (by simp)
                                · rw [if_neg c70] at H
                                  have c70b0 : decide ((wrap64 (x10_1 + (rd (rd_L4 y310 t313) 0))) < (wrap64 ((rd (rd_L4 y310 t313) 0) * (rd (rd_L4 y310 t313) 1)))) = false := decide_eq_false c70
                                  clear c70
                                  by_cases c79 : x9_1.length < 4398046511104
                                  · rw [if_pos c79] at H
                                    have LMc79 := Aside0.mk c79
                                    clear c79
                                    obtain ⟨y343, hy343⟩ : ∃ y_ : List (S24), y_ = (x9_1 ++ [(⟨x326000_52, x326001_61, 0, x326003_41⟩ : S24)]) := ⟨_, rfl⟩
                                    replace H : (spec_l30Draw.l0 kj61 (rd (rd_L4 y310 t313) 0) (rd (rd_L4 y310 t313) 1) (wrap64 (1 + t319)) y343 (wrap64 (x10_1 + 1)) s0_0 x1001_61 x1002_61) = some (r1, r2, r3, r4, r5) := by first | (rw [hy343]; with_reducible exact H) | (have H2_ := (Option.bind_some _ _).symm.trans H; rw [hy343]; with_reducible exact H2_) | (have H2_ := (Option.bind_some _ _).symm.trans H; with_reducible exact H2_) | with_reducible exact H | (rw [hy343]; exact H) | exact H
                                    have Ny343 := Aside0.mk hy343
                                    clear hy343
                                    have H' := Aside0.mk H
                                    clear H
                                    have hnb80 := NB325_0.out
                                    have hnc80 := NB0_325.out
                                    have hcz81_0 : wc.cell? ⟨gb325, 0, none⟩ = some (.int .i64 x326000_52) := (blk_cell BK325.out 0).trans rfl
                                    have hcz81_1 : wc.cell? ⟨gb325, 1, none⟩ = some (.int .i64 x326001_61) := (blk_cell BK325.out 1).trans rfl
                                    have hcz81_2 : wc.cell? ⟨gb325, 2, none⟩ = some (.int .i64 0) := (blk_cell BK325.out 2).trans rfl
                                    have hcz81_3 : wc.cell? ⟨gb325, 3, none⟩ = some (.int .i64 x326003_41) := (blk_cell BK325.out 3).trans rfl
                                    have hfz81_0 := blk_frozen BK325.out 0
                                    have hfz81_1 := blk_frozen BK325.out 1
                                    have hfz81_2 := blk_frozen BK325.out 2
                                    have hfz81_3 := blk_frozen BK325.out 3
                                    go_wp2_with (first | ((with_reducible refine gate_builtin (b := .append) (xs := #[.tmp 104, .tmp 106]) rfl ?_); at_builtin; refine Kd.R_append k24 w.heap.size rfl (.tmp 104) (.tmp 106) 34 24 (.agg #[(.int .i64 0), (.int .i64 0), (.int .i64 0), (.int .i64 0)]) 32 rfl Try.underlying34 info24 rfl (by decide) (by omega) u9 x9_1 (⟨x326000_52, x326001_61, 0, x326003_41⟩ : S24) [.int .i64 x326000_52, .int .i64 x326001_61, .int .i64 0, .int .i64 x326003_41] (fun k_ => k_ ≠ gb325) (fun _ => False) rfl rfl ?aP (fun _ hk => hk.elim) ?aF ?aO (Below.refl _ _) ?aS ?aL ?_; (case aP => exact k24_mkM _ _ _ (⟨x326000_52, x326001_61, 0, x326003_41⟩ : S24)); (case aF => exact (fun k_ hk => Kd.freshB (g := gb325) (o := .cells #[.int .i64 x326000_52, .int .i64 x326001_61, .int .i64 0, .int .i64 x326003_41] 24 (0, 0)) (by (with_reducible repeat (first | refine blk_drewN ?_ _ | refine blk_drew ?_ | refine blk_alloc ?_ _)); exact BK325.out) k_ hk)); (case aO => exact (by (with_reducible repeat (first | apply Kd.R_alloc | apply Kd.R_drewN | apply Kd.R_drew)); exact HO_9.out)); (case aS => exact (keep_size (w := w) (g := g) (row := none) (by repeat (first | (with_reducible first | exact HK.out | apply KeepBut.set_ | apply keep_drewN | apply keep_drew | apply keep_alloc | refine keep_far ?_ GW325.out _) | exact HK.out)))); (case aL => have := LMc79.out; omega); intro v344 w82 ho hb hg hat; rw [← Ny343.out] at ho; have n0_ := Aside0.mk (blk_grown (g := gb325) (o := .cells #[.int .i64 x326000_52, .int .i64 x326001_61, .int .i64 0, .int .i64 x326003_41] 24 (0, 0)) (by (with_reducible repeat (first | refine blk_drewN ?_ _ | refine blk_drew ?_ | refine blk_alloc ?_ _)); exact BK325.out) hg (Kd.R_away HO_9.out (fun _ hk => hk))); have n1_ := Aside0.mk (IsS102.grown (by repeat (first | (with_reducible first | exact HI0.out | apply IsS102.alloc | apply IsS102.drewN | apply IsS102.drew | apply IsS102.set_1 | apply IsS102.set_2 | refine IsS102.far ?_ NB0_325.out _) | exact HI0.out)) hg (IsS102.own_ne HI0.out HO_9.out (by decide))); have n2_ := Aside0.mk (below_weaken (by repeat (first | (with_reducible first | exact HB.out | apply below_alloc | apply pw_below_drewN | apply below_drew1 | refine below_set ?_ (IsS102.ge HI0.out) | refine below_set ?_ GE325.out) | exact HB.out)) HL.out hb); have n3_ := Aside0.mk (KeepBut.trans (by repeat (first | (with_reducible first | exact HK.out | apply KeepBut.set_ | apply keep_drewN | apply keep_drew | apply keep_alloc | refine keep_far ?_ GW325.out _) | exact HK.out)) (KeepBut.of_grown hg g) (Kd.R_base2 HO_9.out)); have n4_ := Aside0.mk (ho); clear BK325; clear HI0; clear HB; clear HK; clear HO_9; have BK325 := n0_; have HI0 := n1_; have HB := n2_; have HK := n3_; have HO345 := n4_; clear n0_ n1_ n2_ n3_ n4_; clear ho hb hg hat))
                                    go_roundg kj61
                                    case measure => have := HK1.out; have := HJ41.out; have := HJ52.out; have := HJ61.out; omega
                                    case rel => exact ⟨(y343), (wrap64 (x10_1 + 1)), (x1001_61), (x1002_61), (by first | rfl | (simp; done) | (simp [*]; done)), H', ⟨by have := HK1.out; have := HJ41.out; have := HJ52.out; have := HJ61.out; omega⟩, ⟨by (with_reducible repeat (first | apply Kd.R_alloc | apply Kd.R_drewN | apply Kd.R_drew)); exact Kd.R_mono HO345.out (fun _ hk => trivial)⟩, ⟨by repeat (first | (with_reducible first | exact HI0.out | apply IsS102.alloc | apply IsS102.drewN | apply IsS102.drew | apply IsS102.set_1 | apply IsS102.set_2 | refine IsS102.far ?_ NB0_325.out _) | exact HI0.out)⟩, ⟨by repeat (first | (with_reducible first | exact HK.out | apply KeepBut.set_ | apply keep_drewN | apply keep_drew | apply keep_alloc | refine keep_far ?_ GW325.out _) | exact HK.out)⟩, ⟨by repeat (first | (with_reducible first | exact HB.out | apply below_alloc | apply pw_below_drewN | apply below_drew1 | refine below_set ?_ (IsS102.ge HI0.out) | refine below_set ?_ GE325.out) | exact HB.out)⟩⟩
                                  · rw [if_neg c79] at H
                                    exact absurd H (by simp)
              · rw [if_neg c40] at H
                have c40b0 : decide (x10_1 < (wrap64 ((rd (rd_L4 y310 t313) 0) * (rd (rd_L4 y310 t313) 1)))) = false := decide_eq_false c40
                clear c40
                obtain ⟨y346, hy346⟩ : ∃ y_ : List (S24), y_ = (([] : List (S24))) := ⟨_, rfl⟩
                replace H : (spec_l30Draw.l1 k1 (rd (rd_L4 y310 t313) 0) (rd (rd_L4 y310 t313) 1) x9_1 y346 0 s0_0 x1001_1 x1002_1) = some (r1, r2, r3, r4, r5) := by first | (rw [hy346]; with_reducible exact H) | (have H2_ := (Option.bind_some _ _).symm.trans H; rw [hy346]; with_reducible exact H2_) | (have H2_ := (Option.bind_some _ _).symm.trans H; with_reducible exact H2_) | with_reducible exact H | (rw [hy346]; exact H) | exact H
                have Ny346 := Aside0.mk hy346
                clear hy346
                have H' := Aside0.mk H
                clear H
                go_wp2_with (first | ((with_reducible refine gate_dst (N := 108) rfl ?_); refine Kd.R_lit k24 _ 24 ?hg (N := 108) ?hd (xs := ([] : List (S24))) (inner := []) (ok := fun _ => True) (okp := fun _ => True) ?hr ?hp (fun _ hk => hk) trivial (Below.refl _ _) (Nat.le_refl _) (by simp) ?_; (case hd => rfl); (case hg => rfl); (case hr => first | (go_simp; done) | (go_simp; rfl)); (case hp => exact (Reps.none _ _)); intro v347 w83 ho84 hb hg_ hnew_; clear hg_ hnew_; (first | rw [← Ny346.out] at ho84 | (simp only [Int.reduceToNat] at ho84; rw [← Ny346.out] at ho84)); have n0_ := Aside0.mk (Kd.R_elder' (by (with_reducible repeat (first | apply Kd.R_alloc | apply Kd.R_drewN | apply Kd.R_drew)); exact HO_9.out) (Kd.R_base ho84) hb); have n1_ := Aside0.mk (Kd.R_lower (Kd.R_new' ho84 (Kd.R_lt (by (with_reducible repeat (first | apply Kd.R_alloc | apply Kd.R_drewN | apply Kd.R_drew)); exact HO_9.out))) (keep_size (w := w) (g := g) (row := none) (by repeat (first | (with_reducible first | exact HK.out | apply KeepBut.set_ | apply keep_drewN | apply keep_drew | apply keep_alloc) | exact HK.out)))); have n2_ := Aside0.mk (IsS102.below (by repeat (first | (with_reducible first | exact HI0.out | apply IsS102.alloc | apply IsS102.drewN | apply IsS102.drew | apply IsS102.set_1 | apply IsS102.set_2) | exact HI0.out)) hb); have n3_ := Aside0.mk (KeepBut.trans (by repeat (first | (with_reducible first | exact HK.out | apply KeepBut.set_ | apply keep_drewN | apply keep_drew | apply keep_alloc) | exact HK.out)) (KeepBut.of_below hb g none) (.inl rfl)); have n4_ := Aside0.mk (below_step (by repeat (first | (with_reducible first | exact HB.out | apply below_alloc | apply pw_below_drewN | apply below_drew1 | refine below_set ?_ (IsS102.ge HI0.out)) | exact HB.out)) hb); clear HO_9; clear HI0; clear HK; clear HB; have HO_9 := n0_; have HO348 := n1_; have HI0 := n2_; have HK := n3_; have HB := n4_; clear n0_ n1_ n2_ n3_ n4_; clear hb ho84))
                go_loopg [12, 13] k1 (fun kq v12 v13 w' => ∃ (x12_2 : List (S24)) (x13_2 : Int) (x1001_2 : Int) (x1002_2 : Int), v13 = .int .i64 x13_2 ∧ Aside0 (spec_l30Draw.l1 kq (rd (rd_L4 y310 t313) 0) (rd (rd_L4 y310 t313) 1) x9_1 x12_2 x13_2 s0_0 x1001_2 x1002_2 = some (r1, r2, r3, r4, r5)) ∧ Aside0 (kq ≤ k1) ∧ Aside0 (Kd.R k24 24 w' w.heap.size (fun k_ => some k_ ≠ (v12 : Value).ownBlock) u9 x9_1) ∧ Aside0 (Kd.Q k24 24 w' w.heap.size (fun k_ => some k_ ≠ (u9 : Value).ownBlock) v12 x12_2) ∧ Aside0 (IsS102 w0 w' g s0_0 x1001_2 x1002_2) ∧ Aside0 (KeepBut w w' g none) ∧ Aside0 (Below w0.heap.size w0 w'))
                case atStart => exact ⟨(y346), (0), (x1001_1), (x1002_1), (by first | rfl | (simp; done) | (simp [*]; done)), H', ⟨Nat.le_refl _⟩, ⟨by (with_reducible repeat (first | apply Kd.R_alloc | apply Kd.R_drewN | apply Kd.R_drew)); exact Kd.R_mono HO_9.out (fun _ hk => hk.2)⟩, ⟨Kd.Q_of_R (by (with_reducible repeat (first | apply Kd.R_alloc | apply Kd.R_drewN | apply Kd.R_drew)); exact Kd.R_mono HO348.out (fun _ hk => hk.2))⟩, ⟨by repeat (first | (with_reducible first | exact HI0.out | apply IsS102.alloc | apply IsS102.drewN | apply IsS102.drew | apply IsS102.set_1 | apply IsS102.set_2) | exact HI0.out)⟩, ⟨by repeat (first | (with_reducible first | exact HK.out | apply KeepBut.set_ | apply keep_drewN | apply keep_drew | apply keep_alloc) | exact HK.out)⟩, ⟨by repeat (first | (with_reducible first | exact HB.out | apply below_alloc | apply pw_below_drewN | apply below_drew1 | refine below_set ?_ (IsS102.ge HI0.out)) | exact HB.out)⟩⟩
                case round =>
                  clear H'
                  try clear p2
                  try clear c3
                  try clear c3b0
                  try clear p3
                  try clear q3
                  try clear hx3
                  try clear qi3
                  try clear c4
                  try clear c4b0
                  try clear c5
                  try clear c5b0
                  try clear c5b1
                  try clear c6
                  try clear c6b0
                  try clear c6b1
                  try clear p6
                  try clear c7
                  try clear c8
                  try clear c31
                  try clear p31
                  try clear q31
                  try clear hx31
                  try clear qi31
                  try clear p32
                  try clear q32
                  try clear hx32
                  try clear c40
                  try clear c40b0
                  try clear c41
                  try clear c41b0
                  try clear c41b1
                  try clear c44
                  try clear c46
                  try clear c46b0
                  try clear c48
                  try clear c48b0
                  try clear c49
                  try clear c49b0
                  try clear c51
                  try clear c54
                  try clear c54b0
                  try clear c56
                  try clear c56b0
                  try clear c57
                  try clear c57b0
                  try clear c59
                  try clear c61
                  try clear c61b0
                  try clear c61b1
                  try clear c63
                  try clear c63b0
                  try clear p64
                  try clear c68
                  try clear c70
                  try clear c70b0
                  try clear c73
                  try clear c74
                  try clear c76
                  try clear c79
                  try clear c80
                  try clear hcz45_0
                  try clear hcz45_1
                  try clear hcz45_2
                  try clear hcz45_3
                  try clear hcz52_0
                  try clear hcz52_1
                  try clear hcz52_2
                  try clear hcz52_3
                  try clear hcz60_0
                  try clear hcz60_1
                  try clear hcz60_2
                  try clear hcz60_3
                  try clear hcz69_0
                  try clear hcz69_1
                  try clear hcz69_2
                  try clear hcz69_3
                  try clear hcz77_0
                  try clear hcz77_1
                  try clear hcz77_2
                  try clear hcz77_3
                  try clear hcz81_0
                  try clear hcz81_1
                  try clear hcz81_2
                  try clear hcz81_3
                  try clear hfz45_0
                  try clear hfz45_1
                  try clear hfz45_2
                  try clear hfz45_3
                  try clear hfz52_0
                  try clear hfz52_1
                  try clear hfz52_2
                  try clear hfz52_3
                  try clear hfz60_0
                  try clear hfz60_1
                  try clear hfz60_2
                  try clear hfz60_3
                  try clear hfz69_0
                  try clear hfz69_1
                  try clear hfz69_2
                  try clear hfz69_3
                  try clear hfz77_0
                  try clear hfz77_1
                  try clear hfz77_2
                  try clear hfz77_3
                  try clear hfz81_0
                  try clear hfz81_1
                  try clear hfz81_2
                  try clear hfz81_3
                  try clear hx316_0
                  try clear hx317_0
                  try clear hx318_0
                  try clear hx326_0
                  try clear hx326_1
                  try clear hx326_2
                  try clear hx326_3
                  try clear hx327_0
                  try clear hx327_1
                  try clear hx327_2
                  try clear hx327_3
                  try clear p2
                  try clear p3
                  try clear p31
                  try clear p316
                  try clear p317
                  try clear p318
                  try clear p32
                  try clear p326
                  try clear p327
                  try clear p6
                  try clear p64
                  try clear q3
                  try clear q31
                  try clear q316
                  try clear q317
                  try clear q318
                  try clear q32
                  try clear q326
                  try clear q327
                  obtain ⟨x12_2, x13_2, x1001_2, x1002_2, rfl, HA, HK2, HO_9, HO_12, HI0, HK, HB⟩ := hrel
                  cases gk with
                  | zero => exact absurd HA.out (by simp [spec_l30Draw.l1])
                  | succ k2 =>
                    have H := HA.out
                    clear HA
                    simp only [spec_l30Draw.l1] at H
                    by_cases c85 : x13_2 < (x9_1.length : Int)
                    · rw [if_pos c85] at H
                      have c85b0 : decide (x13_2 < (x9_1.length : Int)) = true := decide_eq_true c85
                      clear c85
                      replace H := Option.bind_eq_some_iff.mp H
                      obtain ⟨⟨t349, t350, t351⟩, A860, H⟩ := H
                      replace H : ((some (([] : List (S24)) : List (S24))).bind fun y352 => (if 0 ≤ t349 then (if t349 ≤ (x12_2.length : Int) then ((some (x12_2.take (t349 : Int).toNat : List (S24))).bind fun y355 => (if y352.length + y355.length < 4398046511104 then ((some (y352 ++ y355 : List (S24))).bind fun y359 => (if 0 ≤ x13_2 then ((spec_l01Next.f s0_0 t350 t351 4).bind fun bt363 => ((spec_l30Turn.f ((rd_T24 x9_1 x13_2).f0) ((rd_T24 x9_1 x13_2).f1) ((rd_T24 x9_1 x13_2).f2) ((rd_T24 x9_1 x13_2).f3) bt363.1).bind fun bt366 => (if y359.length < 4398046511104 then ((some (y359 ++ [(⟨bt366.1, bt366.2.1, bt366.2.2.1, bt366.2.2.2⟩ : S24)] : List (S24))).bind fun y370 => ((some (x12_2.drop (t349 : Int).toNat : List (S24))).bind fun y373 => (if y370.length + y373.length < 4398046511104 then (spec_l30Draw.l1 k2 (rd (rd_L4 y310 t313) 0) (rd (rd_L4 y310 t313) 1) x9_1 (y370 ++ y373) (wrap64 (x13_2 + 1)) s0_0 bt363.2.1 bt363.2.2) else (none)))) else (none)))) else (none))) else (none))) else (none)) else (none))) = some (r1, r2, r3, r4, r5) := H
                      have A86 := Aside0.mk A860
                      clear A860
                      obtain ⟨y352, hy352⟩ : ∃ y_ : List (S24), y_ = (([] : List (S24))) := ⟨_, rfl⟩
                      replace H : (if 0 ≤ t349 then (if t349 ≤ (x12_2.length : Int) then ((some (x12_2.take (t349 : Int).toNat : List (S24))).bind fun y355 => (if y352.length + y355.length < 4398046511104 then ((some (y352 ++ y355 : List (S24))).bind fun y359 => (if 0 ≤ x13_2 then ((spec_l01Next.f s0_0 t350 t351 4).bind fun bt363 => ((spec_l30Turn.f ((rd_T24 x9_1 x13_2).f0) ((rd_T24 x9_1 x13_2).f1) ((rd_T24 x9_1 x13_2).f2) ((rd_T24 x9_1 x13_2).f3) bt363.1).bind fun bt366 => (if y359.length < 4398046511104 then ((some (y359 ++ [(⟨bt366.1, bt366.2.1, bt366.2.2.1, bt366.2.2.2⟩ : S24)] : List (S24))).bind fun y370 => ((some (x12_2.drop (t349 : Int).toNat : List (S24))).bind fun y373 => (if y370.length + y373.length < 4398046511104 then (spec_l30Draw.l1 k2 (rd (rd_L4 y310 t313) 0) (rd (rd_L4 y310 t313) 1) x9_1 (y370 ++ y373) (wrap64 (x13_2 + 1)) s0_0 bt363.2.1 bt363.2.2) else (none)))) else (none)))) else (none))) else (none))) else (none)) else (none)) = some (r1, r2, r3, r4, r5) := by first | (rw [hy352]; with_reducible exact H) | (have H2_ := (Option.bind_some _ _).symm.trans H; rw [hy352]; with_reducible exact H2_) | (have H2_ := (Option.bind_some _ _).symm.trans H; with_reducible exact H2_) | with_reducible exact H | (rw [hy352]; exact H) | exact H
                      have Ny352 := Aside0.mk hy352
                      clear hy352
                      by_cases c87 : 0 ≤ t349
                      · rw [if_pos c87] at H
                        have c87b0 := eq_true c87
                        have c87b1 : decide (0 ≤ t349) = true := decide_eq_true c87
                        clear c87
                        by_cases c88 : t349 ≤ (x12_2.length : Int)
                        · rw [if_pos c88] at H
                          have c88b0 := eq_true c88
                          have c88b1 : decide (t349 ≤ (x12_2.length : Int)) = true := decide_eq_true c88
                          clear c88
                          obtain ⟨y355, hy355⟩ : ∃ y_ : List (S24), y_ = (x12_2.take (t349 : Int).toNat) := ⟨_, rfl⟩
                          replace H : (if y352.length + y355.length < 4398046511104 then ((some (y352 ++ y355 : List (S24))).bind fun y359 => (if 0 ≤ x13_2 then ((spec_l01Next.f s0_0 t350 t351 4).bind fun bt363 => ((spec_l30Turn.f ((rd_T24 x9_1 x13_2).f0) ((rd_T24 x9_1 x13_2).f1) ((rd_T24 x9_1 x13_2).f2) ((rd_T24 x9_1 x13_2).f3) bt363.1).bind fun bt366 => (if y359.length < 4398046511104 then ((some (y359 ++ [(⟨bt366.1, bt366.2.1, bt366.2.2.1, bt366.2.2.2⟩ : S24)] : List (S24))).bind fun y370 => ((some (x12_2.drop (t349 : Int).toNat : List (S24))).bind fun y373 => (if y370.length + y373.length < 4398046511104 then (spec_l30Draw.l1 k2 (rd (rd_L4 y310 t313) 0) (rd (rd_L4 y310 t313) 1) x9_1 (y370 ++ y373) (wrap64 (x13_2 + 1)) s0_0 bt363.2.1 bt363.2.2) else (none)))) else (none)))) else (none))) else (none)) = some (r1, r2, r3, r4, r5) := by first | (rw [hy355]; with_reducible exact H) | (have H2_ := (Option.bind_some _ _).symm.trans H; rw [hy355]; with_reducible exact H2_) | (have H2_ := (Option.bind_some _ _).symm.trans H; with_reducible exact H2_) | with_reducible exact H | (rw [hy355]; exact H) | exact H
                          have Ny355 := Aside0.mk hy355
                          clear hy355
                          by_cases c89 : y352.length + y355.length < 4398046511104
                          · rw [if_pos c89] at H
                            have LMc89 := Aside0.mk c89
                            clear c89
                            obtain ⟨y359, hy359⟩ : ∃ y_ : List (S24), y_ = (y352 ++ y355) := ⟨_, rfl⟩
                            replace H : (if 0 ≤ x13_2 then ((spec_l01Next.f s0_0 t350 t351 4).bind fun bt363 => ((spec_l30Turn.f ((rd_T24 x9_1 x13_2).f0) ((rd_T24 x9_1 x13_2).f1) ((rd_T24 x9_1 x13_2).f2) ((rd_T24 x9_1 x13_2).f3) bt363.1).bind fun bt366 => (if y359.length < 4398046511104 then ((some (y359 ++ [(⟨bt366.1, bt366.2.1, bt366.2.2.1, bt366.2.2.2⟩ : S24)] : List (S24))).bind fun y370 => ((some (x12_2.drop (t349 : Int).toNat : List (S24))).bind fun y373 => (if y370.length + y373.length < 4398046511104 then (spec_l30Draw.l1 k2 (rd (rd_L4 y310 t313) 0) (rd (rd_L4 y310 t313) 1) x9_1 (y370 ++ y373) (wrap64 (x13_2 + 1)) s0_0 bt363.2.1 bt363.2.2) else (none)))) else (none)))) else (none)) = some (r1, r2, r3, r4, r5) := by first | (rw [hy359]; with_reducible exact H) | (have H2_ := (Option.bind_some _ _).symm.trans H; rw [hy359]; with_reducible exact H2_) | (have H2_ := (Option.bind_some _ _).symm.trans H; with_reducible exact H2_) | with_reducible exact H | (rw [hy359]; exact H) | exact H
                            have Ny359 := Aside0.mk hy359
                            clear hy359
                            by_cases c90 : 0 ≤ x13_2
                            · rw [if_pos c90] at H
                              have c90b0 : decide (0 ≤ x13_2) = true := decide_eq_true c90
                              clear c90
                              replace H := Option.bind_eq_some_iff.mp H
                              obtain ⟨⟨t363, t364, t365⟩, A910, H⟩ := H
                              replace H : ((spec_l30Turn.f ((rd_T24 x9_1 x13_2).f0) ((rd_T24 x9_1 x13_2).f1) ((rd_T24 x9_1 x13_2).f2) ((rd_T24 x9_1 x13_2).f3) t363).bind fun bt366 => (if y359.length < 4398046511104 then ((some (y359 ++ [(⟨bt366.1, bt366.2.1, bt366.2.2.1, bt366.2.2.2⟩ : S24)] : List (S24))).bind fun y370 => ((some (x12_2.drop (t349 : Int).toNat : List (S24))).bind fun y373 => (if y370.length + y373.length < 4398046511104 then (spec_l30Draw.l1 k2 (rd (rd_L4 y310 t313) 0) (rd (rd_L4 y310 t313) 1) x9_1 (y370 ++ y373) (wrap64 (x13_2 + 1)) s0_0 t364 t365) else (none)))) else (none))) = some (r1, r2, r3, r4, r5) := H
                              have A91 := Aside0.mk A910
                              clear A910
                              replace H := Option.bind_eq_some_iff.mp H
                              obtain ⟨⟨t366, t367, t368, t369⟩, A920, H⟩ := H
                              replace H : (if y359.length < 4398046511104 then ((some (y359 ++ [(⟨t366, t367, t368, t369⟩ : S24)] : List (S24))).bind fun y370 => ((some (x12_2.drop (t349 : Int).toNat : List (S24))).bind fun y373 => (if y370.length + y373.length < 4398046511104 then (spec_l30Draw.l1 k2 (rd (rd_L4 y310 t313) 0) (rd (rd_L4 y310 t313) 1) x9_1 (y370 ++ y373) (wrap64 (x13_2 + 1)) s0_0 t364 t365) else (none)))) else (none)) = some (r1, r2, r3, r4, r5) := H
                              have A92 := Aside0.mk A920
                              clear A920
                              by_cases c93 : y359.length < 4398046511104
                              · rw [if_pos c93] at H
                                have LMc93 := Aside0.mk c93
                                clear c93
                                obtain ⟨y370, hy370⟩ : ∃ y_ : List (S24), y_ = (y359 ++ [(⟨t366, t367, t368, t369⟩ : S24)]) := ⟨_, rfl⟩
                                replace H : ((some (x12_2.drop (t349 : Int).toNat : List (S24))).bind fun y373 => (if y370.length + y373.length < 4398046511104 then (spec_l30Draw.l1 k2 (rd (rd_L4 y310 t313) 0) (rd (rd_L4 y310 t313) 1) x9_1 (y370 ++ y373) (wrap64 (x13_2 + 1)) s0_0 t364 t365) else (none))) = some (r1, r2, r3, r4, r5) := by first | (rw [hy370]; with_reducible exact H) | (have H2_ := (Option.bind_some _ _).symm.trans H; rw [hy370]; with_reducible exact H2_) | (have H2_ := (Option.bind_some _ _).symm.trans H; with_reducible exact H2_) | with_reducible exact H | (rw [hy370]; exact H) | exact H
                                have Ny370 := Aside0.mk hy370
                                clear hy370
                                have c94b0 := eq_true (of_decide_eq_true (by first | (with_reducible assumption) | assumption) : 0 ≤ t349)
                                have c95b0 := eq_true (of_decide_eq_true (by first | (with_reducible assumption) | assumption) : t349 ≤ (x12_2.length : Int))
                                obtain ⟨y373, hy373⟩ : ∃ y_ : List (S24), y_ = (x12_2.drop (t349 : Int).toNat) := ⟨_, rfl⟩
                                replace H : (if y370.length + y373.length < 4398046511104 then (spec_l30Draw.l1 k2 (rd (rd_L4 y310 t313) 0) (rd (rd_L4 y310 t313) 1) x9_1 (y370 ++ y373) (wrap64 (x13_2 + 1)) s0_0 t364 t365) else (none)) = some (r1, r2, r3, r4, r5) := by first | (rw [hy373]; with_reducible exact H) | (have H2_ := (Option.bind_some _ _).symm.trans H; rw [hy373]; with_reducible exact H2_) | (have H2_ := (Option.bind_some _ _).symm.trans H; with_reducible exact H2_) | with_reducible exact H | (rw [hy373]; exact H) | exact H
                                have Ny373 := Aside0.mk hy373
                                clear hy373
                                by_cases c96 : y370.length + y373.length < 4398046511104
                                · rw [if_pos c96] at H
                                  have LMc96 := Aside0.mk c96
                                  clear c96
                                  obtain ⟨y377, hy377⟩ : ∃ y_ : List (S24), y_ = (y370 ++ y373) := ⟨_, rfl⟩
                                  replace H : (spec_l30Draw.l1 k2 (rd (rd_L4 y310 t313) 0) (rd (rd_L4 y310 t313) 1) x9_1 y377 (wrap64 (x13_2 + 1)) s0_0 t364 t365) = some (r1, r2, r3, r4, r5) := by first | (rw [hy377]; with_reducible exact H) | (have H2_ := (Option.bind_some _ _).symm.trans H; rw [hy377]; with_reducible exact H2_) | (have H2_ := (Option.bind_some _ _).symm.trans H; with_reducible exact H2_) | with_reducible exact H | (rw [hy377]; exact H) | exact H
                                  have Ny377 := Aside0.mk hy377
                                  clear hy377
                                  have H' := Aside0.mk H
                                  clear H
                                  obtain ⟨Ao97, co97, eo97⟩ := Kd.R_slice HO_9.out
                                  subst eo97
                                  obtain ⟨Ao98, co98, eo98, _⟩ := Kd.Q_slice HO_12.out
                                  subst eo98
                                  try go_wp2_with (first | ((with_reducible refine gate_callee (f := 74) rfl ?_); refine goesL_ (some 119) rfl rfl Try.func74 (by kernel_rfl) rfl #[.pointer (some ⟨g, 0, none⟩), .int .i64 (wrap64 ((x12_2.length : Int) + 1))] rfl (by (try simp only [List.map_toArray, List.map_cons, List.map_nil]); first | done | rfl | (simp only [List.length_drop, List.length_take]; rfl)) ?_; (with_reducible refine (spec_l01Next.calls g s0_0 x1001_2 x1002_2 (wrap64 ((x12_2.length : Int) + 1)) t349 t350 t351 w0 _ ?side1 ?side2 A86.out).mono ?_); (case side1 => repeat (first | (with_reducible first | exact HI0.out | apply IsS102.alloc | apply IsS102.drewN | apply IsS102.drew | apply IsS102.set_1 | apply IsS102.set_2) | exact HI0.out)); (case side2 => repeat (first | (with_reducible first | exact HB.out | apply below_alloc | apply pw_below_drewN | apply below_drew1 | refine below_set ?_ (IsS102.ge HI0.out)) | exact HB.out)); rintro e w99 ⟨rfl, hi, hb, hk⟩; refine ⟨_, rfl, ?_⟩; have n0_ := Aside0.mk (Kd.R_mono (Kd.R_keep (IsS102.apart (show IsS102 w0 _ g s0_0 x1001_2 x1002_2 from by repeat (first | (with_reducible first | exact HI0.out | apply IsS102.alloc | apply IsS102.drewN | apply IsS102.drew | apply IsS102.set_1 | apply IsS102.set_2) | exact HI0.out)) (by (with_reducible repeat (first | apply Kd.R_alloc | apply Kd.R_drewN | apply Kd.R_drew)); exact HO_9.out) (by decide)) hk (fun _ h => h.2)) (fun _ h => h.1)); have n1_ := Aside0.mk (Kd.Q_mono (Kd.Q_keep (IsS102.apartQ (show IsS102 w0 _ g s0_0 x1001_2 x1002_2 from by repeat (first | (with_reducible first | exact HI0.out | apply IsS102.alloc | apply IsS102.drewN | apply IsS102.drew | apply IsS102.set_1 | apply IsS102.set_2) | exact HI0.out)) (by (with_reducible repeat (first | apply Kd.Q_alloc | apply Kd.Q_drewN | apply Kd.Q_drew)); exact HO_12.out) (by decide)) hk (fun _ h => h.2)) (fun _ h => h.1)); have n2_ := Aside0.mk (KeepBut.trans (by repeat (first | (with_reducible first | exact HK.out | apply KeepBut.set_ | apply keep_drewN | apply keep_drew | apply keep_alloc) | exact HK.out)) hk (.inl rfl)); have n3_ := Aside0.mk (hb); have n4_ := Aside0.mk (hi); clear HO_9; clear HO_12; clear HK; clear HB; clear HI0; have HO_9 := n0_; have HO_12 := n1_; have HK := n2_; have HB := n3_; have HI0 := n4_; clear n0_ n1_ n2_ n3_ n4_; (try clear hb); (try clear hb2); (try clear hk); (try clear hi)))
                                  have n0_ := Aside0.mk (Kd.R_drew HO_9.out)
                                  have n1_ := Aside0.mk (Kd.Q_drew HO_12.out)
                                  have n2_ := Aside0.mk (IsS102.drew HI0.out)
                                  have n3_ := Aside0.mk (keep_drew HK.out)
                                  have n4_ := Aside0.mk (below_drew1 HB.out)
                                  clear HO_9
                                  clear HO_12
                                  clear HI0
                                  clear HK
                                  clear HB
                                  have HO_9 := n0_
                                  have HO_12 := n1_
                                  have HI0 := n2_
                                  have HK := n3_
                                  have HB := n4_
                                  clear n0_ n1_ n2_ n3_ n4_
                                  have q101 : (t349 : Int) ≤ ((x12_2.length : Int) : Int) := of_decide_eq_true (by first | (with_reducible assumption) | assumption)
                                  obtain ⟨i0101, hi0101, _, hsz101, _⟩ := info_parts info24
                                  have hroom101 : x12_2.length ≤ co98 := (Kd.Q_reads' HO_12.out).2.1
                                  have hC101 : Kd.C k24 _ Ao98 x12_2.length x12_2 := (Kd.Q_reads' HO_12.out).2.2
                                  have hcut101 := cut_to (P := Try.prog) 34 24 .i64 Try.underlying34 hi0101 Ao98 x12_2.length co98 t349 (of_decide_eq_true (by first | (with_reducible assumption) | assumption)) q101 hroom101
                                  have hr101 := Kd.C_take (m := (t349 : Int).toNat) hC101 (by omega)
                                  have hy101 : y355.length = (t349 : Int).toNat := (by rw [Ny355.out, List.length_take]; omega)
                                  rw [← Ny355.out] at hr101
                                  rw [← hy101] at hcut101
                                  have HR358 := Aside0.mk hr101
                                  have HC358 := Aside0.mk (show y355.length ≤ co98 from by omega)
                                  clear hr101 hC101 hroom101 hi0101 hsz101
                                  have KY101 := Aside0.mk hy101
                                  clear hy101
                                  have KL101 := Aside0.mk (show (t349 : Int).toNat ≤ x12_2.length from by omega)
                                  replace q101 := eq_true q101
                                  have p362 : 0 ≤ (x13_2 : Int) := of_decide_eq_true (by first | (with_reducible assumption) | assumption)
                                  have q362 : x13_2 < (x9_1.length : Int) := of_decide_eq_true (by first | (with_reducible assumption) | assumption)
                                  obtain ⟨ad362, e362, hx362_0, hx362_1, hx362_2, hx362_3⟩ := at_T24 (Kd.R_reads' HO_9.out).2.2 x13_2 p362 q362
                                  cases e362
                                  replace p362 := eq_true p362
                                  replace q362 := eq_true q362
                                  have q102 : (t349 : Int) ≤ ((x12_2.length : Int) : Int) := of_decide_eq_true (by first | (with_reducible assumption) | assumption)
                                  obtain ⟨i0102, hi0102, _, hsz102, _⟩ := info_parts info24
                                  have hroom102 : x12_2.length ≤ co98 := (Kd.Q_reads' HO_12.out).2.1
                                  have hC102 : Kd.C k24 _ Ao98 x12_2.length x12_2 := (Kd.Q_reads' HO_12.out).2.2
                                  have q0102 : (0 : Int) ≤ (t349 : Int) := of_decide_eq_true (by first | (with_reducible assumption) | assumption)
                                  have hcut102 := cut_from (P := Try.prog) 34 24 .i64 Try.underlying34 hi0102 4 hsz102 Ao98 x12_2.length co98 t349 q0102 q102
                                  have hr102 := Kd.C_drop (m := (t349 : Int).toNat) (c := co98) hC102 (by omega) hroom102
                                  obtain ⟨A102, hA102⟩ : ∃ A1, A1 = (if co98 = (t349 : Int).toNat then Ao98 else (Ao98 : Option Addr).map (·.add ((t349 : Int).toNat * 4))) := ⟨_, rfl⟩
                                  obtain ⟨c102, hc102⟩ : ∃ c1, c1 = co98 - (t349 : Int).toNat := ⟨_, rfl⟩
                                  have hy102 : y373.length = x12_2.length - (t349 : Int).toNat := (by rw [Ny373.out, List.length_drop] <;> omega)
                                  rw [show (x12_2).drop (t349 : Int).toNat = y373 from Ny373.out.symm] at hr102
                                  replace hr102 : Kd.C k24 _ A102 y373.length y373 := (by rw [hA102]; exact hr102)
                                  rw [← hy102, ← hA102, ← hc102] at hcut102
                                  have HR376 := Aside0.mk hr102
                                  have HC376 := Aside0.mk (show y373.length ≤ c102 from by rw [hy102, hc102]; exact Nat.sub_le_sub_right hroom102 _)
                                  clear hr102 hC102 hroom102 hi0102 hsz102 hc102
                                  have KY102 := Aside0.mk hy102
                                  have KA102 := Aside0.mk hA102
                                  clear hy102 hA102
                                  have KL102 := Aside0.mk (show (t349 : Int).toNat ≤ x12_2.length from by omega)
                                  replace q102 := eq_true q102
                                  refine start_ (n := 19) (S := fun w' => w'.cell? (ad362.add ((x13_2).toNat * 4)) = some (.int .i64 ((rd_T24 x9_1 x13_2).f0)) ∧ w'.cell? ⟨(ad362.add ((x13_2).toNat * 4)).block, (ad362.add ((x13_2).toNat * 4)).off + 1, none⟩ = some (.int .i64 ((rd_T24 x9_1 x13_2).f1)) ∧ w'.cell? ⟨(ad362.add ((x13_2).toNat * 4)).block, (ad362.add ((x13_2).toNat * 4)).off + 2, none⟩ = some (.int .i64 ((rd_T24 x9_1 x13_2).f2)) ∧ w'.cell? ⟨(ad362.add ((x13_2).toNat * 4)).block, (ad362.add ((x13_2).toNat * 4)).off + 3, none⟩ = some (.int .i64 ((rd_T24 x9_1 x13_2).f3))) (ds := [12]) #[false, false, false, false, false, false, false, false, false, false, false, false, false, false, false, false, false, false, false] (by kernel_rfl) rfl rfl ⟨hx362_0, hx362_1, hx362_2, hx362_3⟩ (fun hHeld => ?_); refine with_tabW spec_l30Draw.tab23 spec_l30Draw.bits23 (fun HT_ HW_ => ?_)
                                  generalize w99.drew = w100 at HO_9 HO_12 HI0 HK HB HR358 HR376 hx362_0 hx362_1 hx362_2 hx362_3 hHeld ⊢
                                  refine pure_ (i := 1) (N := some 121) (v := ?_) (a' := ?_) #[false, true, false, false, false, false, false, false, false, false, false, false, false, false, false, false, false, false, false] rfl rfl (any_of HT_.out (by kernel_rfl)) (fun _ _ _ h => h) (Or.inl ⟨by rfl, ?_⟩) ?_ ?_
                                  rotate_left
                                  · intro w'
                                    go_simp
                                    with_reducible rfl
                                  rotate_left
                                  · simp only [Act.put, List.setIfInBounds_toArray, List.set_cons_zero, List.set_cons_succ, i64_w, i32_w]
                                    rfl
                                  refine pure_ (i := 2) (N := some 122) (v := ?_) (a' := ?_) #[false, true, true, false, false, false, false, false, false, false, false, false, false, false, false, false, false, false, false] rfl rfl (any_of HT_.out (by kernel_rfl)) (fun _ _ _ h => h) (Or.inl ⟨by rfl, ?_⟩) ?_ ?_
                                  rotate_left
                                  · intro w'
                                    go_simp
                                    with_reducible rfl
                                  rotate_left
                                  · simp only [Act.put, List.setIfInBounds_toArray, List.set_cons_zero, List.set_cons_succ, i64_w, i32_w]
                                    rfl
                                  refine pure_ (i := 3) (N := some 123) (v := ?_) (a' := ?_) #[false, true, true, true, false, false, false, false, false, false, false, false, false, false, false, false, false, false, false] rfl rfl (any_of HT_.out (by kernel_rfl)) (fun _ _ _ h => h) (Or.inl ⟨by rfl, ?_⟩) ?_ ?_
                                  rotate_left
                                  · intro w'
                                    go_simp
                                    with_reducible rfl
                                  rotate_left
                                  · simp only [Act.put, List.setIfInBounds_toArray, List.set_cons_zero, List.set_cons_succ, i64_w, i32_w]
                                    rfl
                                  refine pure_ (i := 5) (N := some 125) (v := ?_) (a' := ?_) #[false, true, true, true, false, true, false, false, false, false, false, false, false, false, false, false, false, false, false] rfl rfl (any_of HT_.out (by kernel_rfl)) (fun _ _ _ h => h) (Or.inl ⟨by rfl, ?_⟩) ?_ ?_
                                  rotate_left
                                  · intro w'
                                    go_simp
                                    with_reducible rfl
                                  rotate_left
                                  · simp only [Act.put, List.setIfInBounds_toArray, List.set_cons_zero, List.set_cons_succ, i64_w, i32_w]
                                    rfl
                                  refine pure_ (i := 6) (N := some 126) (v := ?_) (a' := ?_) #[false, true, true, true, false, true, true, false, false, false, false, false, false, false, false, false, false, false, false] rfl rfl (any_of HT_.out (by kernel_rfl)) (fun _ _ _ h => h) (Or.inl ⟨by rfl, ?_⟩) ?_ ?_
                                  rotate_left
                                  · intro w'
                                    go_simp
                                    with_reducible rfl
                                  rotate_left
                                  · simp only [Act.put, List.setIfInBounds_toArray, List.set_cons_zero, List.set_cons_succ, i64_w, i32_w]
                                    rfl
                                  refine pure_ (i := 7) (N := some 127) (v := ?_) (a' := ?_) #[false, true, true, true, false, true, true, true, false, false, false, false, false, false, false, false, false, false, false] rfl rfl (any_of HT_.out (by kernel_rfl)) (fun _ _ _ h => h) (Or.inl ⟨by rfl, ?_⟩) ?_ ?_
                                  rotate_left
                                  · intro w'
                                    go_simp
                                    with_reducible rfl
                                  rotate_left
                                  · simp only [Act.put, List.setIfInBounds_toArray, List.set_cons_zero, List.set_cons_succ, i64_w, i32_w]
                                    rfl
                                  refine pure_ (i := 9) (N := some 129) (v := ?_) (a' := ?_) #[false, true, true, true, false, true, true, true, false, true, false, false, false, false, false, false, false, false, false] rfl rfl (any_of HT_.out (by kernel_rfl)) (fun _ _ _ h => h) (Or.inl ⟨by rfl, ?_⟩) ?_ ?_
                                  rotate_left
                                  · intro w'
                                    go_simp
                                    with_reducible rfl
                                  rotate_left
                                  · simp only [Act.put, List.setIfInBounds_toArray, List.set_cons_zero, List.set_cons_succ, i64_w, i32_w]
                                    rfl
                                  refine pure_ (i := 14) (N := some 134) (v := ?_) (a' := ?_) #[false, true, true, true, false, true, true, true, false, true, false, false, false, false, true, false, false, false, false] rfl rfl (any_of HT_.out (by kernel_rfl)) (fun _ _ _ h => h) (Or.inl ⟨by rfl, ?_⟩) ?_ ?_
                                  rotate_left
                                  · intro w'
                                    go_simp
                                    with_reducible rfl
                                  rotate_left
                                  · simp only [Act.put, List.setIfInBounds_toArray, List.set_cons_zero, List.set_cons_succ, i64_w, i32_w]
                                    rfl
                                  refine pure_ (i := 15) (N := some 135) (v := ?_) (a' := ?_) #[false, true, true, true, false, true, true, true, false, true, false, false, false, false, true, true, false, false, false] rfl rfl (any_of HT_.out (by kernel_rfl)) (fun _ _ _ h => h) (Or.inl ⟨by rfl, ?_⟩) ?_ ?_
                                  rotate_left
                                  · intro w'
                                    go_simp
                                    with_reducible rfl
                                  rotate_left
                                  · simp only [Act.put, List.setIfInBounds_toArray, List.set_cons_zero, List.set_cons_succ, i64_w, i32_w]
                                    rfl
                                  refine pure_ (i := 16) (N := some 136) (v := ?_) (a' := ?_) #[false, true, true, true, false, true, true, true, false, true, false, false, false, false, true, true, true, false, false] rfl rfl (any_of HT_.out (by kernel_rfl)) (fun _ _ _ h => h) (Or.inl ⟨by rfl, ?_⟩) ?_ ?_
                                  rotate_left
                                  · intro w'
                                    go_simp
                                    with_reducible rfl
                                  rotate_left
                                  · simp only [Act.put, List.setIfInBounds_toArray, List.set_cons_zero, List.set_cons_succ, i64_w, i32_w]
                                    rfl
                                  refine take_ (i := 8) (N := some 128) (v := ?_) (a' := ?_) #[false, true, true, true, false, true, true, true, true, true, false, false, false, false, true, true, true, false, false] rfl rfl (take_ofW HT_.out HW_.out (by kernel_rfl)) (fun _ _ _ h => h) (Or.inl ⟨by rfl, ?_⟩) hHeld ?_ ?_
                                  rotate_left
                                  · rintro w' ⟨s0, s1, s2, s3⟩
                                    go_simp
                                    with_reducible rfl
                                  rotate_left
                                  · simp only [Act.put, List.setIfInBounds_toArray, List.set_cons_zero, List.set_cons_succ, i64_w, i32_w]
                                    rfl
                                  refine one_ (i := 0) (N := some 120) #[true, true, true, true, false, true, true, true, true, true, false, false, false, false, true, true, true, false, false] rfl rfl (one_of HT_.out (by kernel_rfl)) (by decide) (fun K hK => ?_)
                                  refine Kd.R_lit_step k24 _ 24 ?hg (N := 120) ?hd (xs := ([] : List (S24))) (inner := []) (ok := fun _ => True) (okp := fun _ => True) ?hr ?hp (fun _ hk => hk) trivial (Below.refl _ _) (Nat.le_refl _) (by simp) ?_; (case hd => rfl); (case hg => rfl); (case hr => first | (go_simp; done) | (go_simp; rfl)); (case hp => exact (Reps.none _ _))
                                  intro v353 w103 ho104 hb hg_ hnew_
                                  have HS0_ := (hb.cell (World.block_lt_of_cell? _ _ (hHeld.1))).trans (hHeld.1)
                                  have HS1_ := (hb.cell (World.block_lt_of_cell? _ _ (hHeld.2.1))).trans (hHeld.2.1)
                                  have HS2_ := (hb.cell (World.block_lt_of_cell? _ _ (hHeld.2.2.1))).trans (hHeld.2.2.1)
                                  have HS3_ := (hb.cell (World.block_lt_of_cell? _ _ (hHeld.2.2.2))).trans (hHeld.2.2.2)
                                  clear hg_ hnew_
                                  (first | rw [← Ny352.out] at ho104 | (simp only [Int.reduceToNat] at ho104; rw [← Ny352.out] at ho104))
                                  have n0_ := Aside0.mk (Kd.R_elder' (by (with_reducible repeat (first | apply Kd.R_alloc | apply Kd.R_drewN | apply Kd.R_drew)); exact HO_9.out) (Kd.R_base ho104) hb)
                                  have n1_ := Aside0.mk (Kd.Q_elder' (by (with_reducible repeat (first | apply Kd.Q_alloc | apply Kd.Q_drewN | apply Kd.Q_drew)); exact HO_12.out) (Kd.R_base ho104) hb)
                                  have n2_ := Aside0.mk (Kd.R_lower (Kd.R_new' (Kd.R_new' ho104 (Kd.R_lt (by (with_reducible repeat (first | apply Kd.R_alloc | apply Kd.R_drewN | apply Kd.R_drew)); exact HO_9.out))) (Kd.Q_lt (by (with_reducible repeat (first | apply Kd.Q_alloc | apply Kd.Q_drewN | apply Kd.Q_drew)); exact HO_12.out))) (keep_size (w := w) (g := g) (row := none) (by repeat (first | (with_reducible first | exact HK.out | apply KeepBut.set_ | apply keep_drewN | apply keep_drew | apply keep_alloc) | exact HK.out))))
                                  have n3_ := Aside0.mk (IsS102.below (by repeat (first | (with_reducible first | exact HI0.out | apply IsS102.alloc | apply IsS102.drewN | apply IsS102.drew | apply IsS102.set_1 | apply IsS102.set_2) | exact HI0.out)) hb)
                                  have n4_ := Aside0.mk (Kd.C_below (by repeat (first | (with_reducible exact HR358.out) | (with_reducible refine Kd.C_alloc ?_ _) | (with_reducible refine Kd.C_drewN ?_ _) | (with_reducible refine Kd.C_drew ?_) | exact HR358.out)) hb)
                                  have n5_ := Aside0.mk (Kd.C_below (by repeat (first | (with_reducible exact HR376.out) | (with_reducible refine Kd.C_alloc ?_ _) | (with_reducible refine Kd.C_drewN ?_ _) | (with_reducible refine Kd.C_drew ?_) | exact HR376.out)) hb)
                                  have n6_ := Aside0.mk (KeepBut.trans (by repeat (first | (with_reducible first | exact HK.out | apply KeepBut.set_ | apply keep_drewN | apply keep_drew | apply keep_alloc) | exact HK.out)) (KeepBut.of_below hb g none) (.inl rfl))
                                  have n7_ := Aside0.mk (below_step (by repeat (first | (with_reducible first | exact HB.out | apply below_alloc | apply pw_below_drewN | apply below_drew1 | refine below_set ?_ (IsS102.ge HI0.out)) | exact HB.out)) hb)
                                  clear HO_9
                                  clear HO_12
                                  clear HI0
                                  clear HR358
                                  clear HR376
                                  clear HK
                                  clear HB
                                  have HO_9 := n0_
                                  have HO_12 := n1_
                                  have HO354 := n2_
                                  have HI0 := n3_
                                  have HR358 := n4_
                                  have HR376 := n5_
                                  have HK := n6_
                                  have HB := n7_
                                  clear n0_ n1_ n2_ n3_ n4_ n5_ n6_ n7_
                                  clear hb ho104
                                  refine hK.out _ _ ⟨HS0_, HS1_, HS2_, HS3_⟩ (fun hHeld => ?_)
                                  clear hK K
                                  refine norm_ (a' := ?_) ?_ ?_
                                  rotate_left
                                  · show Act.put _ (some 120) _ = _
                                    simp only [Act.put, List.setIfInBounds_toArray, List.set_cons_zero, List.set_cons_succ, i64_w, i32_w]
                                    rfl
                                  refine one_ (i := 4) (N := some 124) #[true, true, true, true, true, true, true, true, true, true, false, false, false, false, true, true, true, false, false] rfl rfl (one_of HT_.out (by kernel_rfl)) (by decide) (fun K hK => ?_)
                                  refine Kd.R_append_rows_step k24 w.heap.size (by rfl) (.tmp 120) (.tmp 123) 34 24 (.agg #[(.int .i64 0), (.int .i64 0), (.int .i64 0), (.int .i64 0)]) 32 rfl Try.underlying34 info24 rfl (by decide) (by omega) v353 y352 y355 _ _ _ (fun k_ => some k_ ≠ (.slice (some ad362) x9_1.length co97 : Value).ownBlock ∧ some k_ ≠ (.slice Ao98 x12_2.length co98 : Value).ownBlock) (fun _ => False) rfl rfl ?aO ?aR (fun _ _ h => h) (fun _ h => h.elim) ?aF (Below.refl _ _) ?aS ?aL ?_
                                  (case aR => repeat (first | exact (by repeat (first | (with_reducible exact HR358.out) | (with_reducible refine Kd.C_alloc ?_ _) | (with_reducible refine Kd.C_drewN ?_ _) | (with_reducible refine Kd.C_drew ?_) | exact HR358.out)) | (with_reducible refine Kd.C_alloc ?_ _) | (with_reducible refine Kd.C_drewN ?_ _) | (with_reducible refine Kd.C_drew ?_)))
                                  (case aF => exact (fun k_ hk => ⟨Kd.fresh' (Kd.R_lt (by (with_reducible repeat (first | apply Kd.R_alloc | apply Kd.R_drewN | apply Kd.R_drew)); exact HO_9.out)) k_ hk, Kd.fresh' (Kd.Q_lt (by (with_reducible repeat (first | apply Kd.Q_alloc | apply Kd.Q_drewN | apply Kd.Q_drew)); exact HO_12.out)) k_ hk⟩))
                                  (case aO => exact (by (with_reducible repeat (first | apply Kd.R_alloc | apply Kd.R_drewN | apply Kd.R_drew)); exact Kd.R_mono HO354.out (fun _ hk => ⟨hk.1.2, hk.2⟩)))
                                  (case aS => exact (keep_size (w := w) (g := g) (row := none) (by repeat (first | (with_reducible first | exact HK.out | apply KeepBut.set_ | apply keep_drewN | apply keep_drew | apply keep_alloc) | exact HK.out))))
                                  (case aL => have := LMc89.out; omega)
                                  intro v360 w105 ho hb hg hat
                                  have HS0_ := cell_grown hg (hHeld.1) (by first | (rw [add_block]; exact ((HO_9.out.1 _ rfl).2)) | (show some (Addr.add _ _).block ≠ _; rw [add_block]; exact ((HO_9.out.1 _ rfl).2)) | exact ((HO_9.out.1 _ rfl).2))
                                  have HS1_ := cell_grown hg (hHeld.2.1) (by first | (rw [add_block]; exact ((HO_9.out.1 _ rfl).2)) | (show some (Addr.add _ _).block ≠ _; rw [add_block]; exact ((HO_9.out.1 _ rfl).2)) | exact ((HO_9.out.1 _ rfl).2))
                                  have HS2_ := cell_grown hg (hHeld.2.2.1) (by first | (rw [add_block]; exact ((HO_9.out.1 _ rfl).2)) | (show some (Addr.add _ _).block ≠ _; rw [add_block]; exact ((HO_9.out.1 _ rfl).2)) | exact ((HO_9.out.1 _ rfl).2))
                                  have HS3_ := cell_grown hg (hHeld.2.2.2) (by first | (rw [add_block]; exact ((HO_9.out.1 _ rfl).2)) | (show some (Addr.add _ _).block ≠ _; rw [add_block]; exact ((HO_9.out.1 _ rfl).2)) | exact ((HO_9.out.1 _ rfl).2))
                                  rw [← Ny359.out] at ho
                                  have n0_ := Aside0.mk (Kd.R_after (ok := (fun k_ => some k_ ≠ (.slice Ao98 x12_2.length co98 : Value).ownBlock)) (by (with_reducible repeat (first | apply Kd.R_alloc | apply Kd.R_drewN | apply Kd.R_drew)); exact HO_9.out) hg hat)
                                  have n1_ := Aside0.mk (Kd.Q_after (ok := (fun k_ => some k_ ≠ (.slice (some ad362) x9_1.length co97 : Value).ownBlock)) (by (with_reducible repeat (first | apply Kd.Q_alloc | apply Kd.Q_drewN | apply Kd.Q_drew)); exact HO_12.out) hg hat)
                                  have n2_ := Aside0.mk (IsS102.grown (by repeat (first | (with_reducible first | exact HI0.out | apply IsS102.alloc | apply IsS102.drewN | apply IsS102.drew | apply IsS102.set_1 | apply IsS102.set_2) | exact HI0.out)) hg (IsS102.own_ne HI0.out HO354.out (by decide)))
                                  have n3_ := Aside0.mk (below_weaken (by repeat (first | (with_reducible first | exact HB.out | apply below_alloc | apply pw_below_drewN | apply below_drew1 | refine below_set ?_ (IsS102.ge HI0.out)) | exact HB.out)) HL.out hb)
                                  have n4_ := Aside0.mk (KeepBut.trans (by repeat (first | (with_reducible first | exact HK.out | apply KeepBut.set_ | apply keep_drewN | apply keep_drew | apply keep_alloc) | exact HK.out)) (KeepBut.of_grown hg g) (Kd.R_base2 HO354.out))
                                  have n5_ := Aside0.mk ((show Kd.C k24 w105 Ao98 y355.length y355 from by rw [Ny355.out]; exact Kd.C_take (m := (t349 : Int).toNat) ((Kd.Q_reads' (Kd.Q_after (ok := (fun k_ => some k_ ≠ (.slice (some ad362) x9_1.length co97 : Value).ownBlock)) (by (with_reducible repeat (first | apply Kd.Q_alloc | apply Kd.Q_drewN | apply Kd.Q_drew)); exact HO_12.out) hg hat)).2.2) KL101.out))
                                  have n6_ := Aside0.mk ((show Kd.C k24 w105 A102 y373.length y373 from by rw [Ny373.out, KA102.out]; exact Kd.C_drop (m := (t349 : Int).toNat) (c := co98) ((Kd.Q_reads' (Kd.Q_after (ok := (fun k_ => some k_ ≠ (.slice (some ad362) x9_1.length co97 : Value).ownBlock)) (by (with_reducible repeat (first | apply Kd.Q_alloc | apply Kd.Q_drewN | apply Kd.Q_drew)); exact HO_12.out) hg hat)).2.2) KL102.out ((Kd.Q_reads' (Kd.Q_after (ok := (fun k_ => some k_ ≠ (.slice (some ad362) x9_1.length co97 : Value).ownBlock)) (by (with_reducible repeat (first | apply Kd.Q_alloc | apply Kd.Q_drewN | apply Kd.Q_drew)); exact HO_12.out) hg hat)).2.1)))
                                  have n7_ := Aside0.mk (ho)
                                  clear HO_9
                                  clear HO_12
                                  clear HI0
                                  clear HB
                                  clear HK
                                  clear HR358
                                  clear HR376
                                  clear HO354
                                  have HO_9 := n0_
                                  have HO_12 := n1_
                                  have HI0 := n2_
                                  have HB := n3_
                                  have HK := n4_
                                  have HR358 := n5_
                                  have HR376 := n6_
                                  have HO361 := n7_
                                  clear n0_ n1_ n2_ n3_ n4_ n5_ n6_ n7_
                                  clear ho hb hg hat
                                  refine hK.out _ _ ⟨HS0_, HS1_, HS2_, HS3_⟩ (fun hHeld => ?_)
                                  clear hK K
                                  refine norm_ (a' := ?_) ?_ ?_
                                  rotate_left
                                  · show Act.put _ (some 124) _ = _
                                    simp only [Act.put, List.setIfInBounds_toArray, List.set_cons_zero, List.set_cons_succ, i64_w, i32_w]
                                    rfl
                                  refine one_ (i := 10) (N := some 130) #[true, true, true, true, true, true, true, true, true, true, true, false, false, false, true, true, true, false, false] rfl rfl (one_of HT_.out (by kernel_rfl)) (by decide) (fun K hK => ?_)
                                  refine goes_ Try.func74 (by kernel_rfl) rfl #[.pointer (some ⟨g, 0, none⟩), .int .i64 4] (by rfl) rfl rfl (by (try simp only [List.map_toArray, List.map_cons, List.map_nil]); first | done | rfl | (simp only [List.length_drop, List.length_take]; rfl)) ?_
                                  with_reducible refine (spec_l01Next.calls g s0_0 t350 t351 4 t363 t364 t365 w0 _ ?side1 ?side2 A91.out).mono ?_
                                  (case side1 => repeat (first | (with_reducible first | exact HI0.out | apply IsS102.alloc | apply IsS102.drewN | apply IsS102.drew | apply IsS102.set_1 | apply IsS102.set_2) | exact HI0.out))
                                  (case side2 => repeat (first | (with_reducible first | exact HB.out | apply below_alloc | apply pw_below_drewN | apply below_drew1 | refine below_set ?_ (IsS102.ge HI0.out)) | exact HB.out))
                                  rintro e w106 ⟨rfl, hi, hb, hk⟩
                                  have HS0_ := keep_cell hk (hHeld.1) (by first | (rw [add_block]; exact Kd.own_blk (IsS102.own_ne HI0.out HO_9.out (by decide))) | (show (Addr.add _ _).block ≠ _; rw [add_block]; exact Kd.own_blk (IsS102.own_ne HI0.out HO_9.out (by decide))) | exact Kd.own_blk (IsS102.own_ne HI0.out HO_9.out (by decide)))
                                  have HS1_ := keep_cell hk (hHeld.2.1) (by first | (rw [add_block]; exact Kd.own_blk (IsS102.own_ne HI0.out HO_9.out (by decide))) | (show (Addr.add _ _).block ≠ _; rw [add_block]; exact Kd.own_blk (IsS102.own_ne HI0.out HO_9.out (by decide))) | exact Kd.own_blk (IsS102.own_ne HI0.out HO_9.out (by decide)))
                                  have HS2_ := keep_cell hk (hHeld.2.2.1) (by first | (rw [add_block]; exact Kd.own_blk (IsS102.own_ne HI0.out HO_9.out (by decide))) | (show (Addr.add _ _).block ≠ _; rw [add_block]; exact Kd.own_blk (IsS102.own_ne HI0.out HO_9.out (by decide))) | exact Kd.own_blk (IsS102.own_ne HI0.out HO_9.out (by decide)))
                                  have HS3_ := keep_cell hk (hHeld.2.2.2) (by first | (rw [add_block]; exact Kd.own_blk (IsS102.own_ne HI0.out HO_9.out (by decide))) | (show (Addr.add _ _).block ≠ _; rw [add_block]; exact Kd.own_blk (IsS102.own_ne HI0.out HO_9.out (by decide))) | exact Kd.own_blk (IsS102.own_ne HI0.out HO_9.out (by decide)))
                                  refine ⟨_, rfl, ?_⟩
                                  have n0_ := Aside0.mk (Kd.R_mono (Kd.R_keep (IsS102.apart (show IsS102 w0 _ g s0_0 t350 t351 from by repeat (first | (with_reducible first | exact HI0.out | apply IsS102.alloc | apply IsS102.drewN | apply IsS102.drew | apply IsS102.set_1 | apply IsS102.set_2) | exact HI0.out)) (by (with_reducible repeat (first | apply Kd.R_alloc | apply Kd.R_drewN | apply Kd.R_drew)); exact HO_9.out) (by decide)) hk (fun _ h => h.2)) (fun _ h => h.1))
                                  have n1_ := Aside0.mk (Kd.Q_mono (Kd.Q_keep (IsS102.apartQ (show IsS102 w0 _ g s0_0 t350 t351 from by repeat (first | (with_reducible first | exact HI0.out | apply IsS102.alloc | apply IsS102.drewN | apply IsS102.drew | apply IsS102.set_1 | apply IsS102.set_2) | exact HI0.out)) (by (with_reducible repeat (first | apply Kd.Q_alloc | apply Kd.Q_drewN | apply Kd.Q_drew)); exact HO_12.out) (by decide)) hk (fun _ h => h.2)) (fun _ h => h.1))
                                  have n2_ := Aside0.mk (Kd.R_mono (Kd.R_keep (IsS102.apart (show IsS102 w0 _ g s0_0 t350 t351 from by repeat (first | (with_reducible first | exact HI0.out | apply IsS102.alloc | apply IsS102.drewN | apply IsS102.drew | apply IsS102.set_1 | apply IsS102.set_2) | exact HI0.out)) (by (with_reducible repeat (first | apply Kd.R_alloc | apply Kd.R_drewN | apply Kd.R_drew)); exact HO361.out) (by decide)) hk (fun _ h => h.2)) (fun _ h => h.1))
                                  have n3_ := Aside0.mk (KeepBut.trans (by repeat (first | (with_reducible first | exact HK.out | apply KeepBut.set_ | apply keep_drewN | apply keep_drew | apply keep_alloc) | exact HK.out)) hk (.inl rfl))
                                  have n4_ := Aside0.mk (hb)
                                  have n5_ := Aside0.mk (hi)
                                  have n6_ := Aside0.mk ((show Kd.C k24 w106 Ao98 y355.length y355 from by rw [Ny355.out]; exact Kd.C_take (m := (t349 : Int).toNat) ((Kd.Q_reads' (Kd.Q_mono (Kd.Q_keep (IsS102.apartQ (show IsS102 w0 _ g s0_0 t350 t351 from by repeat (first | (with_reducible first | exact HI0.out | apply IsS102.alloc | apply IsS102.drewN | apply IsS102.drew | apply IsS102.set_1 | apply IsS102.set_2) | exact HI0.out)) (by (with_reducible repeat (first | apply Kd.Q_alloc | apply Kd.Q_drewN | apply Kd.Q_drew)); exact HO_12.out) (by decide)) hk (fun _ h => h.2)) (fun _ h => h.1))).2.2) KL101.out))
                                  have n7_ := Aside0.mk ((show Kd.C k24 w106 A102 y373.length y373 from by rw [Ny373.out, KA102.out]; exact Kd.C_drop (m := (t349 : Int).toNat) (c := co98) ((Kd.Q_reads' (Kd.Q_mono (Kd.Q_keep (IsS102.apartQ (show IsS102 w0 _ g s0_0 t350 t351 from by repeat (first | (with_reducible first | exact HI0.out | apply IsS102.alloc | apply IsS102.drewN | apply IsS102.drew | apply IsS102.set_1 | apply IsS102.set_2) | exact HI0.out)) (by (with_reducible repeat (first | apply Kd.Q_alloc | apply Kd.Q_drewN | apply Kd.Q_drew)); exact HO_12.out) (by decide)) hk (fun _ h => h.2)) (fun _ h => h.1))).2.2) KL102.out ((Kd.Q_reads' (Kd.Q_mono (Kd.Q_keep (IsS102.apartQ (show IsS102 w0 _ g s0_0 t350 t351 from by repeat (first | (with_reducible first | exact HI0.out | apply IsS102.alloc | apply IsS102.drewN | apply IsS102.drew | apply IsS102.set_1 | apply IsS102.set_2) | exact HI0.out)) (by (with_reducible repeat (first | apply Kd.Q_alloc | apply Kd.Q_drewN | apply Kd.Q_drew)); exact HO_12.out) (by decide)) hk (fun _ h => h.2)) (fun _ h => h.1))).2.1)))
                                  clear HO_9
                                  clear HO_12
                                  clear HO361
                                  clear HK
                                  clear HB
                                  clear HI0
                                  clear HR358
                                  clear HR376
                                  have HO_9 := n0_
                                  have HO_12 := n1_
                                  have HO361 := n2_
                                  have HK := n3_
                                  have HB := n4_
                                  have HI0 := n5_
                                  have HR358 := n6_
                                  have HR376 := n7_
                                  clear n0_ n1_ n2_ n3_ n4_ n5_ n6_ n7_
                                  (try clear hb)
                                  (try clear hb2)
                                  (try clear hk)
                                  (try clear hi)
                                  refine hK.out _ _ ⟨HS0_, HS1_, HS2_, HS3_⟩ (fun hHeld => ?_)
                                  clear hK K
                                  refine norm_ (a' := ?_) ?_ ?_
                                  rotate_left
                                  · show Act.put _ (some 130) _ = _
                                    simp only [Act.put, List.setIfInBounds_toArray, List.set_cons_zero, List.set_cons_succ, i64_w, i32_w]
                                    rfl
                                  refine one_ (i := 11) (N := some 131) #[true, true, true, true, true, true, true, true, true, true, true, true, false, false, true, true, true, false, false] rfl rfl (one_of HT_.out (by kernel_rfl)) (by decide) (fun K hK => ?_)
                                  refine goes_ Try.func51 (by kernel_rfl) rfl #[.agg #[.int .i64 ((rd_T24 x9_1 x13_2).f0), .int .i64 ((rd_T24 x9_1 x13_2).f1), .int .i64 ((rd_T24 x9_1 x13_2).f2), .int .i64 ((rd_T24 x9_1 x13_2).f3)], .int .i64 t363] (by rfl) rfl rfl (by (try simp only [List.map_toArray, List.map_cons, List.map_nil]); first | done | rfl | (simp only [List.length_drop, List.length_take]; rfl)) ?_
                                  with_reducible refine (spec_l30Turn.calls ((rd_T24 x9_1 x13_2).f0) ((rd_T24 x9_1 x13_2).f1) ((rd_T24 x9_1 x13_2).f2) ((rd_T24 x9_1 x13_2).f3) t363 t366 t367 t368 t369 _ A92.out).mono ?_
                                  rintro e w107 ⟨rfl, hb⟩
                                  have HS0_ := (hb.cell (World.block_lt_of_cell? _ _ (hHeld.1))).trans (hHeld.1)
                                  have HS1_ := (hb.cell (World.block_lt_of_cell? _ _ (hHeld.2.1))).trans (hHeld.2.1)
                                  have HS2_ := (hb.cell (World.block_lt_of_cell? _ _ (hHeld.2.2.1))).trans (hHeld.2.2.1)
                                  have HS3_ := (hb.cell (World.block_lt_of_cell? _ _ (hHeld.2.2.2))).trans (hHeld.2.2.2)
                                  refine ⟨_, rfl, ?_⟩
                                  have n0_ := Aside0.mk (Kd.R_below (by (with_reducible repeat (first | apply Kd.R_alloc | apply Kd.R_drewN | apply Kd.R_drew)); exact HO_9.out) hb)
                                  have n1_ := Aside0.mk (Kd.Q_below (by (with_reducible repeat (first | apply Kd.Q_alloc | apply Kd.Q_drewN | apply Kd.Q_drew)); exact HO_12.out) hb)
                                  have n2_ := Aside0.mk (Kd.R_below (by (with_reducible repeat (first | apply Kd.R_alloc | apply Kd.R_drewN | apply Kd.R_drew)); exact HO361.out) hb)
                                  have n3_ := Aside0.mk (IsS102.below (by repeat (first | (with_reducible first | exact HI0.out | apply IsS102.alloc | apply IsS102.drewN | apply IsS102.drew | apply IsS102.set_1 | apply IsS102.set_2) | exact HI0.out)) hb)
                                  have n4_ := Aside0.mk (Kd.C_below (by repeat (first | (with_reducible exact HR358.out) | (with_reducible refine Kd.C_alloc ?_ _) | (with_reducible refine Kd.C_drewN ?_ _) | (with_reducible refine Kd.C_drew ?_) | exact HR358.out)) hb)
                                  have n5_ := Aside0.mk (Kd.C_below (by repeat (first | (with_reducible exact HR376.out) | (with_reducible refine Kd.C_alloc ?_ _) | (with_reducible refine Kd.C_drewN ?_ _) | (with_reducible refine Kd.C_drew ?_) | exact HR376.out)) hb)
                                  have n6_ := Aside0.mk (KeepBut.trans (by repeat (first | (with_reducible first | exact HK.out | apply KeepBut.set_ | apply keep_drewN | apply keep_drew | apply keep_alloc) | exact HK.out)) (KeepBut.of_below hb g none) (.inl rfl))
                                  have n7_ := Aside0.mk (below_step (by repeat (first | (with_reducible first | exact HB.out | apply below_alloc | apply pw_below_drewN | apply below_drew1 | refine below_set ?_ (IsS102.ge HI0.out)) | exact HB.out)) hb)
                                  clear HO_9
                                  clear HO_12
                                  clear HO361
                                  clear HI0
                                  clear HR358
                                  clear HR376
                                  clear HK
                                  clear HB
                                  have HO_9 := n0_
                                  have HO_12 := n1_
                                  have HO361 := n2_
                                  have HI0 := n3_
                                  have HR358 := n4_
                                  have HR376 := n5_
                                  have HK := n6_
                                  have HB := n7_
                                  clear n0_ n1_ n2_ n3_ n4_ n5_ n6_ n7_
                                  (try clear hb)
                                  (try clear hb2)
                                  (try clear hk)
                                  (try clear hi)
                                  refine hK.out _ _ ⟨HS0_, HS1_, HS2_, HS3_⟩ (fun hHeld => ?_)
                                  clear hK K
                                  refine norm_ (a' := ?_) ?_ ?_
                                  rotate_left
                                  · show Act.put _ (some 131) _ = _
                                    simp only [Act.put, List.setIfInBounds_toArray, List.set_cons_zero, List.set_cons_succ, i64_w, i32_w]
                                    rfl
                                  refine last_ (i := 12) (N := some 132) #[true, true, true, true, true, true, true, true, true, true, true, true, true, false, true, true, true, false, false] rfl rfl (one_of HT_.out (by kernel_rfl)) (by decide) (fun K hK => ?_)
                                  refine value_ (w1 := ?_) (v := ?_) (by rfl) rfl ?_ ?_
                                  rotate_left 2
                                  · go_simp
                                    constructor
                                    · rfl
                                    · rfl
                                  refine hK.out _ _ ?_
                                  clear hK K
                                  refine norm_ (a' := ?_) ?_ ?_
                                  rotate_left
                                  · show Act.put _ (some 132) _ = _
                                    simp only [Act.put, List.setIfInBounds_toArray, List.set_cons_zero, List.set_cons_succ, i64_w, i32_w]
                                    rfl
                                  refine one_ (i := 13) (N := some 133) #[true, true, true, true, true, true, true, true, true, true, true, true, true, true, true, true, true, false, false] rfl rfl (one_of HT_.out (by kernel_rfl)) (by decide) (fun K hK => ?_)
                                  refine Kd.R_append_step k24 w.heap.size (by rfl) (.tmp 124) (.tmp 132) 34 24 (.agg #[(.int .i64 0), (.int .i64 0), (.int .i64 0), (.int .i64 0)]) 32 rfl Try.underlying34 info24 rfl (by decide) (by omega) v360 y359 (⟨t366, t367, t368, t369⟩ : S24) [.int .i64 t366, .int .i64 t367, .int .i64 t368, .int .i64 t369] (fun k_ => some k_ ≠ (.slice (some ad362) x9_1.length co97 : Value).ownBlock ∧ some k_ ≠ (.slice Ao98 x12_2.length co98 : Value).ownBlock) (fun _ => False) rfl rfl ?aP (fun _ hk => hk.elim) ?aF ?aO (Below.refl _ _) ?aS ?aL ?_
                                  (case aP => exact k24_mkM _ _ _ (⟨t366, t367, t368, t369⟩ : S24))
                                  (case aF => exact (fun k_ hk => ⟨Kd.fresh' (Kd.R_lt (by (with_reducible repeat (first | apply Kd.R_alloc | apply Kd.R_drewN | apply Kd.R_drew)); exact HO_9.out)) k_ hk, Kd.fresh' (Kd.Q_lt (by (with_reducible repeat (first | apply Kd.Q_alloc | apply Kd.Q_drewN | apply Kd.Q_drew)); exact HO_12.out)) k_ hk⟩))
                                  (case aO => exact (by (with_reducible repeat (first | apply Kd.R_alloc | apply Kd.R_drewN | apply Kd.R_drew)); exact HO361.out))
                                  (case aS => exact (keep_size (w := w) (g := g) (row := none) (by repeat (first | (with_reducible first | exact HK.out | apply KeepBut.set_ | apply keep_drewN | apply keep_drew | apply keep_alloc) | exact HK.out))))
                                  (case aL => have := LMc93.out; omega)
                                  intro v371 w108 ho hb hg hat
                                  have HS0_ := cell_grown hg (hHeld.1) (by first | (rw [add_block]; exact ((HO_9.out.1 _ rfl).2)) | (show some (Addr.add _ _).block ≠ _; rw [add_block]; exact ((HO_9.out.1 _ rfl).2)) | exact ((HO_9.out.1 _ rfl).2))
                                  have HS1_ := cell_grown hg (hHeld.2.1) (by first | (rw [add_block]; exact ((HO_9.out.1 _ rfl).2)) | (show some (Addr.add _ _).block ≠ _; rw [add_block]; exact ((HO_9.out.1 _ rfl).2)) | exact ((HO_9.out.1 _ rfl).2))
                                  have HS2_ := cell_grown hg (hHeld.2.2.1) (by first | (rw [add_block]; exact ((HO_9.out.1 _ rfl).2)) | (show some (Addr.add _ _).block ≠ _; rw [add_block]; exact ((HO_9.out.1 _ rfl).2)) | exact ((HO_9.out.1 _ rfl).2))
                                  have HS3_ := cell_grown hg (hHeld.2.2.2) (by first | (rw [add_block]; exact ((HO_9.out.1 _ rfl).2)) | (show some (Addr.add _ _).block ≠ _; rw [add_block]; exact ((HO_9.out.1 _ rfl).2)) | exact ((HO_9.out.1 _ rfl).2))
                                  rw [← Ny370.out] at ho
                                  have n0_ := Aside0.mk (Kd.R_after (ok := (fun k_ => some k_ ≠ (.slice Ao98 x12_2.length co98 : Value).ownBlock)) (by (with_reducible repeat (first | apply Kd.R_alloc | apply Kd.R_drewN | apply Kd.R_drew)); exact HO_9.out) hg hat)
                                  have n1_ := Aside0.mk (Kd.Q_after (ok := (fun k_ => some k_ ≠ (.slice (some ad362) x9_1.length co97 : Value).ownBlock)) (by (with_reducible repeat (first | apply Kd.Q_alloc | apply Kd.Q_drewN | apply Kd.Q_drew)); exact HO_12.out) hg hat)
                                  have n2_ := Aside0.mk (IsS102.grown (by repeat (first | (with_reducible first | exact HI0.out | apply IsS102.alloc | apply IsS102.drewN | apply IsS102.drew | apply IsS102.set_1 | apply IsS102.set_2) | exact HI0.out)) hg (IsS102.own_ne HI0.out HO361.out (by decide)))
                                  have n3_ := Aside0.mk (below_weaken (by repeat (first | (with_reducible first | exact HB.out | apply below_alloc | apply pw_below_drewN | apply below_drew1 | refine below_set ?_ (IsS102.ge HI0.out)) | exact HB.out)) HL.out hb)
                                  have n4_ := Aside0.mk (KeepBut.trans (by repeat (first | (with_reducible first | exact HK.out | apply KeepBut.set_ | apply keep_drewN | apply keep_drew | apply keep_alloc) | exact HK.out)) (KeepBut.of_grown hg g) (Kd.R_base2 HO361.out))
                                  have n5_ := Aside0.mk ((show Kd.C k24 w108 Ao98 y355.length y355 from by rw [Ny355.out]; exact Kd.C_take (m := (t349 : Int).toNat) ((Kd.Q_reads' (Kd.Q_after (ok := (fun k_ => some k_ ≠ (.slice (some ad362) x9_1.length co97 : Value).ownBlock)) (by (with_reducible repeat (first | apply Kd.Q_alloc | apply Kd.Q_drewN | apply Kd.Q_drew)); exact HO_12.out) hg hat)).2.2) KL101.out))
                                  have n6_ := Aside0.mk ((show Kd.C k24 w108 A102 y373.length y373 from by rw [Ny373.out, KA102.out]; exact Kd.C_drop (m := (t349 : Int).toNat) (c := co98) ((Kd.Q_reads' (Kd.Q_after (ok := (fun k_ => some k_ ≠ (.slice (some ad362) x9_1.length co97 : Value).ownBlock)) (by (with_reducible repeat (first | apply Kd.Q_alloc | apply Kd.Q_drewN | apply Kd.Q_drew)); exact HO_12.out) hg hat)).2.2) KL102.out ((Kd.Q_reads' (Kd.Q_after (ok := (fun k_ => some k_ ≠ (.slice (some ad362) x9_1.length co97 : Value).ownBlock)) (by (with_reducible repeat (first | apply Kd.Q_alloc | apply Kd.Q_drewN | apply Kd.Q_drew)); exact HO_12.out) hg hat)).2.1)))
                                  have n7_ := Aside0.mk (ho)
                                  clear HO_9
                                  clear HO_12
                                  clear HI0
                                  clear HB
                                  clear HK
                                  clear HR358
                                  clear HR376
                                  clear HO361
                                  have HO_9 := n0_
                                  have HO_12 := n1_
                                  have HI0 := n2_
                                  have HB := n3_
                                  have HK := n4_
                                  have HR358 := n5_
                                  have HR376 := n6_
                                  have HO372 := n7_
                                  clear n0_ n1_ n2_ n3_ n4_ n5_ n6_ n7_
                                  clear ho hb hg hat
                                  refine hK.out _ _ ⟨HS0_, HS1_, HS2_, HS3_⟩ (fun hHeld => ?_)
                                  clear hK K
                                  refine norm_ (a' := ?_) ?_ ?_
                                  rotate_left
                                  · show Act.put _ (some 133) _ = _
                                    simp only [Act.put, List.setIfInBounds_toArray, List.set_cons_zero, List.set_cons_succ, i64_w, i32_w]
                                    rfl
                                  refine one_ (i := 17) (N := some 137) #[true, true, true, true, true, true, true, true, true, true, true, true, true, true, true, true, true, true, false] rfl rfl (one_of HT_.out (by kernel_rfl)) (by decide) (fun K hK => ?_)
                                  refine Kd.R_append_rows_step k24 w.heap.size (by rfl) (.tmp 133) (.tmp 136) 34 24 (.agg #[(.int .i64 0), (.int .i64 0), (.int .i64 0), (.int .i64 0)]) 32 rfl Try.underlying34 info24 rfl (by decide) (by omega) v371 y370 y373 _ _ _ (fun k_ => some k_ ≠ (.slice (some ad362) x9_1.length co97 : Value).ownBlock ∧ some k_ ≠ (.slice Ao98 x12_2.length co98 : Value).ownBlock) (fun _ => False) rfl rfl ?aO ?aR (fun _ _ h => h) (fun _ h => h.elim) ?aF (Below.refl _ _) ?aS ?aL ?_
                                  (case aR => repeat (first | exact (by repeat (first | (with_reducible exact HR376.out) | (with_reducible refine Kd.C_alloc ?_ _) | (with_reducible refine Kd.C_drewN ?_ _) | (with_reducible refine Kd.C_drew ?_) | exact HR376.out)) | (with_reducible refine Kd.C_alloc ?_ _) | (with_reducible refine Kd.C_drewN ?_ _) | (with_reducible refine Kd.C_drew ?_)))
                                  (case aF => exact (fun k_ hk => ⟨Kd.fresh' (Kd.R_lt (by (with_reducible repeat (first | apply Kd.R_alloc | apply Kd.R_drewN | apply Kd.R_drew)); exact HO_9.out)) k_ hk, Kd.fresh' (Kd.Q_lt (by (with_reducible repeat (first | apply Kd.Q_alloc | apply Kd.Q_drewN | apply Kd.Q_drew)); exact HO_12.out)) k_ hk⟩))
                                  (case aO => exact (by (with_reducible repeat (first | apply Kd.R_alloc | apply Kd.R_drewN | apply Kd.R_drew)); exact HO372.out))
                                  (case aS => exact (keep_size (w := w) (g := g) (row := none) (by repeat (first | (with_reducible first | exact HK.out | apply KeepBut.set_ | apply keep_drewN | apply keep_drew | apply keep_alloc) | exact HK.out))))
                                  (case aL => have := LMc96.out; omega)
                                  intro v378 w109 ho hb hg hat
                                  have HS0_ := cell_grown hg (hHeld.1) (by first | (rw [add_block]; exact ((HO_9.out.1 _ rfl).2)) | (show some (Addr.add _ _).block ≠ _; rw [add_block]; exact ((HO_9.out.1 _ rfl).2)) | exact ((HO_9.out.1 _ rfl).2))
                                  have HS1_ := cell_grown hg (hHeld.2.1) (by first | (rw [add_block]; exact ((HO_9.out.1 _ rfl).2)) | (show some (Addr.add _ _).block ≠ _; rw [add_block]; exact ((HO_9.out.1 _ rfl).2)) | exact ((HO_9.out.1 _ rfl).2))
                                  have HS2_ := cell_grown hg (hHeld.2.2.1) (by first | (rw [add_block]; exact ((HO_9.out.1 _ rfl).2)) | (show some (Addr.add _ _).block ≠ _; rw [add_block]; exact ((HO_9.out.1 _ rfl).2)) | exact ((HO_9.out.1 _ rfl).2))
                                  have HS3_ := cell_grown hg (hHeld.2.2.2) (by first | (rw [add_block]; exact ((HO_9.out.1 _ rfl).2)) | (show some (Addr.add _ _).block ≠ _; rw [add_block]; exact ((HO_9.out.1 _ rfl).2)) | exact ((HO_9.out.1 _ rfl).2))
                                  rw [← Ny377.out] at ho
                                  have n0_ := Aside0.mk (Kd.R_after (ok := (fun k_ => some k_ ≠ (.slice Ao98 x12_2.length co98 : Value).ownBlock)) (by (with_reducible repeat (first | apply Kd.R_alloc | apply Kd.R_drewN | apply Kd.R_drew)); exact HO_9.out) hg hat)
                                  have n1_ := Aside0.mk (Kd.Q_after (ok := (fun k_ => some k_ ≠ (.slice (some ad362) x9_1.length co97 : Value).ownBlock)) (by (with_reducible repeat (first | apply Kd.Q_alloc | apply Kd.Q_drewN | apply Kd.Q_drew)); exact HO_12.out) hg hat)
                                  have n2_ := Aside0.mk (IsS102.grown (by repeat (first | (with_reducible first | exact HI0.out | apply IsS102.alloc | apply IsS102.drewN | apply IsS102.drew | apply IsS102.set_1 | apply IsS102.set_2) | exact HI0.out)) hg (IsS102.own_ne HI0.out HO372.out (by decide)))
                                  have n3_ := Aside0.mk (below_weaken (by repeat (first | (with_reducible first | exact HB.out | apply below_alloc | apply pw_below_drewN | apply below_drew1 | refine below_set ?_ (IsS102.ge HI0.out)) | exact HB.out)) HL.out hb)
                                  have n4_ := Aside0.mk (KeepBut.trans (by repeat (first | (with_reducible first | exact HK.out | apply KeepBut.set_ | apply keep_drewN | apply keep_drew | apply keep_alloc) | exact HK.out)) (KeepBut.of_grown hg g) (Kd.R_base2 HO372.out))
                                  have n5_ := Aside0.mk ((show Kd.C k24 w109 Ao98 y355.length y355 from by rw [Ny355.out]; exact Kd.C_take (m := (t349 : Int).toNat) ((Kd.Q_reads' (Kd.Q_after (ok := (fun k_ => some k_ ≠ (.slice (some ad362) x9_1.length co97 : Value).ownBlock)) (by (with_reducible repeat (first | apply Kd.Q_alloc | apply Kd.Q_drewN | apply Kd.Q_drew)); exact HO_12.out) hg hat)).2.2) KL101.out))
                                  have n6_ := Aside0.mk ((show Kd.C k24 w109 A102 y373.length y373 from by rw [Ny373.out, KA102.out]; exact Kd.C_drop (m := (t349 : Int).toNat) (c := co98) ((Kd.Q_reads' (Kd.Q_after (ok := (fun k_ => some k_ ≠ (.slice (some ad362) x9_1.length co97 : Value).ownBlock)) (by (with_reducible repeat (first | apply Kd.Q_alloc | apply Kd.Q_drewN | apply Kd.Q_drew)); exact HO_12.out) hg hat)).2.2) KL102.out ((Kd.Q_reads' (Kd.Q_after (ok := (fun k_ => some k_ ≠ (.slice (some ad362) x9_1.length co97 : Value).ownBlock)) (by (with_reducible repeat (first | apply Kd.Q_alloc | apply Kd.Q_drewN | apply Kd.Q_drew)); exact HO_12.out) hg hat)).2.1)))
                                  have n7_ := Aside0.mk (ho)
                                  clear HO_9
                                  clear HO_12
                                  clear HI0
                                  clear HB
                                  clear HK
                                  clear HR358
                                  clear HR376
                                  clear HO372
                                  have HO_9 := n0_
                                  have HO_12 := n1_
                                  have HI0 := n2_
                                  have HB := n3_
                                  have HK := n4_
                                  have HR358 := n5_
                                  have HR376 := n6_
                                  have HO379 := n7_
                                  clear n0_ n1_ n2_ n3_ n4_ n5_ n6_ n7_
                                  clear ho hb hg hat
                                  refine hK.out _ _ ⟨HS0_, HS1_, HS2_, HS3_⟩ (fun hHeld => ?_)
                                  clear hK K
                                  refine norm_ (a' := ?_) ?_ ?_
                                  rotate_left
                                  · show Act.put _ (some 137) _ = _
                                    simp only [Act.put, List.setIfInBounds_toArray, List.set_cons_zero, List.set_cons_succ, i64_w, i32_w]
                                    rfl
                                  refine pure_ (i := 18) (N := some 12) (v := ?_) (a' := ?_) #[true, true, true, true, true, true, true, true, true, true, true, true, true, true, true, true, true, true, true] rfl rfl (any_of HT_.out (by kernel_rfl)) (fun _ _ _ h => h) (Or.inl ⟨by rfl, ?_⟩) ?_ ?_
                                  rotate_left
                                  · intro w'
                                    go_simp
                                    with_reducible rfl
                                  rotate_left
                                  · simp only [Act.put, List.setIfInBounds_toArray, List.set_cons_zero, List.set_cons_succ, i64_w, i32_w]
                                    rfl
                                  refine done_ (done_of HT_.out (by kernel_rfl)) ?_
                                  try go_wp2
                                  go_roundg k2
                                  case measure => have := HK1.out; have := HK2.out; omega
                                  case rel => exact ⟨(y377), (wrap64 (x13_2 + 1)), (t364), (t365), (by first | rfl | (simp; done) | (simp [*]; done)), H', ⟨by have := HK1.out; have := HK2.out; omega⟩, ⟨by (with_reducible repeat (first | apply Kd.R_alloc | apply Kd.R_drewN | apply Kd.R_drew)); exact Kd.R_mono HO_9.out (fun _ hk => hk.2)⟩, ⟨Kd.Q_of_R (by (with_reducible repeat (first | apply Kd.R_alloc | apply Kd.R_drewN | apply Kd.R_drew)); exact Kd.R_mono HO379.out (fun _ hk => hk.1))⟩, ⟨by repeat (first | (with_reducible first | exact HI0.out | apply IsS102.alloc | apply IsS102.drewN | apply IsS102.drew | apply IsS102.set_1 | apply IsS102.set_2) | exact HI0.out)⟩, ⟨by repeat (first | (with_reducible first | exact HK.out | apply KeepBut.set_ | apply keep_drewN | apply keep_drew | apply keep_alloc) | exact HK.out)⟩, ⟨by repeat (first | (with_reducible first | exact HB.out | apply below_alloc | apply pw_below_drewN | apply below_drew1 | refine below_set ?_ (IsS102.ge HI0.out)) | exact HB.out)⟩⟩
                                · rw [if_neg c96] at H
                                  exact absurd H (by simp)
                              · rw [if_neg c93] at H
                                exact absurd H (by simp)
                            · rw [if_neg c90] at H
                              exact absurd H (by simp)
                          · rw [if_neg c89] at H
                            exact absurd H (by simp)
                        · rw [if_neg c88] at H
                          exact absurd H (by simp)
                      · rw [if_neg c87] at H
                        exact absurd H (by simp)
                    · rw [if_neg c85] at H
                      have c85b0 : decide (x13_2 < (x9_1.length : Int)) = false := decide_eq_false c85
                      clear c85
                      replace H := Option.bind_eq_some_iff.mp H
                      obtain ⟨⟨t380, t381, t382⟩, A1100, H⟩ := H
                      replace H : ((spec_l01Next.f s0_0 t381 t382 16).bind fun bt383 => (if bt383.1 = 0 then ((some (([(-10), 9, 10] : List Int) : List Int)).bind fun y386 => ((spec_l01Next.f s0_0 bt383.2.1 bt383.2.2 3).bind fun bt389 => (if 0 ≤ bt389.1 then (if bt389.1 < (y386.length : Int) then (if 0 ≤ t380 then (if t380 < (x12_2.length : Int) then (some ((x12_2.set (t380 : Int).toNat (⟨rd y386 bt389.1, (rd_T24 x12_2 t380).f1, (rd_T24 x12_2 t380).f2, (rd_T24 x12_2 t380).f3⟩ : S24)), (rd (rd_L4 y310 t313) 0), (rd (rd_L4 y310 t313) 1), bt389.2.1, bt389.2.2)) else (none)) else (none)) else (none)) else (none)))) else (if bt383.1 = 1 then (if 1 ≤ (x12_2.length : Int) then (some ((x12_2.drop (1 : Int).toNat), (rd (rd_L4 y310 t313) 0), (rd (rd_L4 y310 t313) 1), bt383.2.1, bt383.2.2)) else (none)) else (if bt383.1 = 2 then (if 0 ≤ t380 then (if t380 < (x12_2.length : Int) then (some ((x12_2.set (t380 : Int).toNat (⟨(rd_T24 x12_2 t380).f0, (rd_T24 x12_2 t380).f1, (rd_T24 x12_2 t380).f2, wrap64 (((rd_T24 x12_2 t380).f3) + 1)⟩ : S24)), (rd (rd_L4 y310 t313) 0), (rd (rd_L4 y310 t313) 1), bt383.2.1, bt383.2.2)) else (none)) else (none)) else (if bt383.1 = 3 then (some (x12_2, wrap64 ((rd (rd_L4 y310 t313) 0) + 1), (rd (rd_L4 y310 t313) 1), bt383.2.1, bt383.2.2)) else (if bt383.1 = 4 then (if 0 ≤ t380 then (if t380 < (x12_2.length : Int) then (some ((x12_2.set (t380 : Int).toNat (⟨(rd_T24 x12_2 t380).f0, (rd_T24 x12_2 t380).f1, wrap64 (-((rd_T24 x12_2 t380).f2)), (rd_T24 x12_2 t380).f3⟩ : S24)), (rd (rd_L4 y310 t313) 0), (rd (rd_L4 y310 t313) 1), bt383.2.1, bt383.2.2)) else (none)) else (none)) else (some (x12_2, (rd (rd_L4 y310 t313) 0), (rd (rd_L4 y310 t313) 1), bt383.2.1, bt383.2.2)))))))) = some (r1, r2, r3, r4, r5) := H
                      have A110 := Aside0.mk A1100
                      clear A1100
                      replace H := Option.bind_eq_some_iff.mp H
                      obtain ⟨⟨t383, t384, t385⟩, A1110, H⟩ := H
                      replace H : (if t383 = 0 then ((some (([(-10), 9, 10] : List Int) : List Int)).bind fun y386 => ((spec_l01Next.f s0_0 t384 t385 3).bind fun bt389 => (if 0 ≤ bt389.1 then (if bt389.1 < (y386.length : Int) then (if 0 ≤ t380 then (if t380 < (x12_2.length : Int) then (some ((x12_2.set (t380 : Int).toNat (⟨rd y386 bt389.1, (rd_T24 x12_2 t380).f1, (rd_T24 x12_2 t380).f2, (rd_T24 x12_2 t380).f3⟩ : S24)), (rd (rd_L4 y310 t313) 0), (rd (rd_L4 y310 t313) 1), bt389.2.1, bt389.2.2)) else (none)) else (none)) else (none)) else (none)))) else (if t383 = 1 then (if 1 ≤ (x12_2.length : Int) then (some ((x12_2.drop (1 : Int).toNat), (rd (rd_L4 y310 t313) 0), (rd (rd_L4 y310 t313) 1), t384, t385)) else (none)) else (if t383 = 2 then (if 0 ≤ t380 then (if t380 < (x12_2.length : Int) then (some ((x12_2.set (t380 : Int).toNat (⟨(rd_T24 x12_2 t380).f0, (rd_T24 x12_2 t380).f1, (rd_T24 x12_2 t380).f2, wrap64 (((rd_T24 x12_2 t380).f3) + 1)⟩ : S24)), (rd (rd_L4 y310 t313) 0), (rd (rd_L4 y310 t313) 1), t384, t385)) else (none)) else (none)) else (if t383 = 3 then (some (x12_2, wrap64 ((rd (rd_L4 y310 t313) 0) + 1), (rd (rd_L4 y310 t313) 1), t384, t385)) else (if t383 = 4 then (if 0 ≤ t380 then (if t380 < (x12_2.length : Int) then (some ((x12_2.set (t380 : Int).toNat (⟨(rd_T24 x12_2 t380).f0, (rd_T24 x12_2 t380).f1, wrap64 (-((rd_T24 x12_2 t380).f2)), (rd_T24 x12_2 t380).f3⟩ : S24)), (rd (rd_L4 y310 t313) 0), (rd (rd_L4 y310 t313) 1), t384, t385)) else (none)) else (none)) else (some (x12_2, (rd (rd_L4 y310 t313) 0), (rd (rd_L4 y310 t313) 1), t384, t385))))))) = some (r1, r2, r3, r4, r5) := H
                      have A111 := Aside0.mk A1110
                      clear A1110
                      by_cases c112 : t383 = 0
                      · rw [if_pos c112] at H
                        have c112b0 : (t383 == 0) = true := beq_iff_eq.mpr c112
                        have c112b1 : (t383 != 0) = false := bne_eq_false_iff_eq.mpr c112
                        clear c112
                        obtain ⟨y386, hy386⟩ : ∃ y_ : List Int, y_ = (([(-10), 9, 10] : List Int)) := ⟨_, rfl⟩
                        replace H : ((spec_l01Next.f s0_0 t384 t385 3).bind fun bt389 => (if 0 ≤ bt389.1 then (if bt389.1 < (y386.length : Int) then (if 0 ≤ t380 then (if t380 < (x12_2.length : Int) then (some ((x12_2.set (t380 : Int).toNat (⟨rd y386 bt389.1, (rd_T24 x12_2 t380).f1, (rd_T24 x12_2 t380).f2, (rd_T24 x12_2 t380).f3⟩ : S24)), (rd (rd_L4 y310 t313) 0), (rd (rd_L4 y310 t313) 1), bt389.2.1, bt389.2.2)) else (none)) else (none)) else (none)) else (none))) = some (r1, r2, r3, r4, r5) := by first | (rw [hy386]; with_reducible exact H) | (have H2_ := (Option.bind_some _ _).symm.trans H; rw [hy386]; with_reducible exact H2_) | (have H2_ := (Option.bind_some _ _).symm.trans H; with_reducible exact H2_) | with_reducible exact H | (rw [hy386]; exact H) | exact H
                        have Ny386 := Aside0.mk hy386
                        clear hy386
                        replace H := Option.bind_eq_some_iff.mp H
                        obtain ⟨⟨t389, t390, t391⟩, A1130, H⟩ := H
                        replace H : (if 0 ≤ t389 then (if t389 < (y386.length : Int) then (if 0 ≤ t380 then (if t380 < (x12_2.length : Int) then (some ((x12_2.set (t380 : Int).toNat (⟨rd y386 t389, (rd_T24 x12_2 t380).f1, (rd_T24 x12_2 t380).f2, (rd_T24 x12_2 t380).f3⟩ : S24)), (rd (rd_L4 y310 t313) 0), (rd (rd_L4 y310 t313) 1), t390, t391)) else (none)) else (none)) else (none)) else (none)) = some (r1, r2, r3, r4, r5) := H
                        have A113 := Aside0.mk A1130
                        clear A1130
                        by_cases c114 : 0 ≤ t389
                        · rw [if_pos c114] at H
                          have c114b0 : decide (0 ≤ t389) = true := decide_eq_true c114
                          clear c114
                          by_cases c115 : t389 < (y386.length : Int)
                          · rw [if_pos c115] at H
                            have c115b0 : decide (t389 < (y386.length : Int)) = true := decide_eq_true c115
                            clear c115
                            by_cases c116 : 0 ≤ t380
                            · rw [if_pos c116] at H
                              have c116b0 : decide (0 ≤ t380) = true := decide_eq_true c116
                              clear c116
                              by_cases c117 : t380 < (x12_2.length : Int)
                              · rw [if_pos c117] at H
                                have c117b0 : decide (t380 < (x12_2.length : Int)) = true := decide_eq_true c117
                                clear c117
                                obtain ⟨y393, hy393⟩ : ∃ y_ : List (S24), y_ = (x12_2.set (t380 : Int).toNat (⟨rd y386 t389, (rd_T24 x12_2 t380).f1, (rd_T24 x12_2 t380).f2, (rd_T24 x12_2 t380).f3⟩ : S24)) := ⟨_, rfl⟩
                                replace H : (some (y393, (rd (rd_L4 y310 t313) 0), (rd (rd_L4 y310 t313) 1), t390, t391)) = some (r1, r2, r3, r4, r5) := by first | (rw [hy393]; with_reducible exact H) | (have H2_ := (Option.bind_some _ _).symm.trans H; rw [hy393]; with_reducible exact H2_) | (have H2_ := (Option.bind_some _ _).symm.trans H; with_reducible exact H2_) | with_reducible exact H | (rw [hy393]; exact H) | exact H
                                have Ny393 := Aside0.mk hy393
                                clear hy393
                                simp only [Option.some.injEq, Prod.mk.injEq] at H
                                obtain ⟨rfl, rfl, rfl, rfl, rfl⟩ := H
                                obtain ⟨Ao119, co119, eo119⟩ := Kd.R_slice HO_9.out
                                subst eo119
                                obtain ⟨Ao120, co120, eo120, _⟩ := Kd.Q_slice HO_12.out
                                subst eo120
                                go_wp2_with (first | ((with_reducible refine gate_callee (f := 74) rfl ?_); refine goesL_ (some 141) rfl rfl Try.func74 (by kernel_rfl) rfl #[.pointer (some ⟨g, 0, none⟩), .int .i64 (x12_2.length : Int)] rfl (by (try simp only [List.map_toArray, List.map_cons, List.map_nil]); first | done | rfl | (simp only [List.length_drop, List.length_take]; rfl)) ?_; (with_reducible refine (spec_l01Next.calls g s0_0 x1001_2 x1002_2 (x12_2.length : Int) t380 t381 t382 w0 _ ?side1 ?side2 A110.out).mono ?_); (case side1 => repeat (first | (with_reducible first | exact HI0.out | apply IsS102.alloc | apply IsS102.drewN | apply IsS102.drew | apply IsS102.set_1 | apply IsS102.set_2) | exact HI0.out)); (case side2 => repeat (first | (with_reducible first | exact HB.out | apply below_alloc | apply pw_below_drewN | apply below_drew1 | refine below_set ?_ (IsS102.ge HI0.out)) | exact HB.out)); rintro e w121 ⟨rfl, hi, hb, hk⟩; refine ⟨_, rfl, ?_⟩; have n0_ := Aside0.mk (Kd.R_mono (Kd.R_keep (IsS102.apart (show IsS102 w0 _ g s0_0 x1001_2 x1002_2 from by repeat (first | (with_reducible first | exact HI0.out | apply IsS102.alloc | apply IsS102.drewN | apply IsS102.drew | apply IsS102.set_1 | apply IsS102.set_2) | exact HI0.out)) (by (with_reducible repeat (first | apply Kd.R_alloc | apply Kd.R_drewN | apply Kd.R_drew)); exact HO_9.out) (by decide)) hk (fun _ h => h.2)) (fun _ h => h.1)); have n1_ := Aside0.mk (Kd.Q_mono (Kd.Q_keep (IsS102.apartQ (show IsS102 w0 _ g s0_0 x1001_2 x1002_2 from by repeat (first | (with_reducible first | exact HI0.out | apply IsS102.alloc | apply IsS102.drewN | apply IsS102.drew | apply IsS102.set_1 | apply IsS102.set_2) | exact HI0.out)) (by (with_reducible repeat (first | apply Kd.Q_alloc | apply Kd.Q_drewN | apply Kd.Q_drew)); exact HO_12.out) (by decide)) hk (fun _ h => h.2)) (fun _ h => h.1)); have n2_ := Aside0.mk (KeepBut.trans (by repeat (first | (with_reducible first | exact HK.out | apply KeepBut.set_ | apply keep_drewN | apply keep_drew | apply keep_alloc) | exact HK.out)) hk (.inl rfl)); have n3_ := Aside0.mk (hb); have n4_ := Aside0.mk (hi); clear HO_9; clear HO_12; clear HK; clear HB; clear HI0; have HO_9 := n0_; have HO_12 := n1_; have HK := n2_; have HB := n3_; have HI0 := n4_; clear n0_ n1_ n2_ n3_ n4_; (try clear hb); (try clear hb2); (try clear hk); (try clear hi)) | ((with_reducible refine gate_callee (f := 74) rfl ?_); refine goesL_ (some 143) rfl rfl Try.func74 (by kernel_rfl) rfl #[.pointer (some ⟨g, 0, none⟩), .int .i64 16] rfl (by (try simp only [List.map_toArray, List.map_cons, List.map_nil]); first | done | rfl | (simp only [List.length_drop, List.length_take]; rfl)) ?_; (with_reducible refine (spec_l01Next.calls g s0_0 t381 t382 16 t383 t384 t385 w0 _ ?side1 ?side2 A111.out).mono ?_); (case side1 => repeat (first | (with_reducible first | exact HI0.out | apply IsS102.alloc | apply IsS102.drewN | apply IsS102.drew | apply IsS102.set_1 | apply IsS102.set_2) | exact HI0.out)); (case side2 => repeat (first | (with_reducible first | exact HB.out | apply below_alloc | apply pw_below_drewN | apply below_drew1 | refine below_set ?_ (IsS102.ge HI0.out)) | exact HB.out)); rintro e w122 ⟨rfl, hi, hb, hk⟩; refine ⟨_, rfl, ?_⟩; have n0_ := Aside0.mk (Kd.R_mono (Kd.R_keep (IsS102.apart (show IsS102 w0 _ g s0_0 t381 t382 from by repeat (first | (with_reducible first | exact HI0.out | apply IsS102.alloc | apply IsS102.drewN | apply IsS102.drew | apply IsS102.set_1 | apply IsS102.set_2) | exact HI0.out)) (by (with_reducible repeat (first | apply Kd.R_alloc | apply Kd.R_drewN | apply Kd.R_drew)); exact HO_9.out) (by decide)) hk (fun _ h => h.2)) (fun _ h => h.1)); have n1_ := Aside0.mk (Kd.Q_mono (Kd.Q_keep (IsS102.apartQ (show IsS102 w0 _ g s0_0 t381 t382 from by repeat (first | (with_reducible first | exact HI0.out | apply IsS102.alloc | apply IsS102.drewN | apply IsS102.drew | apply IsS102.set_1 | apply IsS102.set_2) | exact HI0.out)) (by (with_reducible repeat (first | apply Kd.Q_alloc | apply Kd.Q_drewN | apply Kd.Q_drew)); exact HO_12.out) (by decide)) hk (fun _ h => h.2)) (fun _ h => h.1)); have n2_ := Aside0.mk (KeepBut.trans (by repeat (first | (with_reducible first | exact HK.out | apply KeepBut.set_ | apply keep_drewN | apply keep_drew | apply keep_alloc) | exact HK.out)) hk (.inl rfl)); have n3_ := Aside0.mk (hb); have n4_ := Aside0.mk (hi); clear HO_9; clear HO_12; clear HK; clear HB; clear HI0; have HO_9 := n0_; have HO_12 := n1_; have HK := n2_; have HB := n3_; have HI0 := n4_; clear n0_ n1_ n2_ n3_ n4_; (try clear hb); (try clear hb2); (try clear hk); (try clear hi)) | ((with_reducible refine gate_dst (N := 148) rfl ?_); refine Kd.R_lit (Kd.int .i64) _ 2 ?hg (N := 148) ?hd (xs := ([(-10), 9, 10] : List Int)) (inner := [.int .i64 (-10), .int .i64 9, .int .i64 10]) (ok := fun _ => True) (okp := fun _ => True) ?hr ?hp (fun _ hk => hk) trivial (Below.refl _ _) (Nat.le_refl _) (by simp) ?_; (case hd => rfl); (case hg => rfl); (case hr => first | (go_simp; done) | (go_simp; rfl)); (case hp => exact (Reps.one (show Kd.M (Kd.int .i64) _ _ _ (-10) [.int .i64 (-10)] from rfl) (Reps.one (show Kd.M (Kd.int .i64) _ _ _ 9 [.int .i64 9] from rfl) (Reps.one (show Kd.M (Kd.int .i64) _ _ _ 10 [.int .i64 10] from rfl) (Reps.none _ _))))); intro v387 w123 ho124 hb hg_ hnew_; clear hg_ hnew_; (first | rw [← Ny386.out] at ho124 | (simp only [Int.reduceToNat] at ho124; rw [← Ny386.out] at ho124)); have n0_ := Aside0.mk (Kd.R_below (by (with_reducible repeat (first | apply Kd.R_alloc | apply Kd.R_drewN | apply Kd.R_drew)); exact HO_9.out) hb); have n1_ := Aside0.mk (Kd.Q_below (by (with_reducible repeat (first | apply Kd.Q_alloc | apply Kd.Q_drewN | apply Kd.Q_drew)); exact HO_12.out) hb); have n2_ := Aside0.mk (Kd.R_lower ho124 (keep_size (w := w) (g := g) (row := none) (by repeat (first | (with_reducible first | exact HK.out | apply KeepBut.set_ | apply keep_drewN | apply keep_drew | apply keep_alloc) | exact HK.out)))); have n3_ := Aside0.mk (IsS102.below (by repeat (first | (with_reducible first | exact HI0.out | apply IsS102.alloc | apply IsS102.drewN | apply IsS102.drew | apply IsS102.set_1 | apply IsS102.set_2) | exact HI0.out)) hb); have n4_ := Aside0.mk (KeepBut.trans (by repeat (first | (with_reducible first | exact HK.out | apply KeepBut.set_ | apply keep_drewN | apply keep_drew | apply keep_alloc) | exact HK.out)) (KeepBut.of_below hb g none) (.inl rfl)); have n5_ := Aside0.mk (below_step (by repeat (first | (with_reducible first | exact HB.out | apply below_alloc | apply pw_below_drewN | apply below_drew1 | refine below_set ?_ (IsS102.ge HI0.out)) | exact HB.out)) hb); clear HO_9; clear HO_12; clear HI0; clear HK; clear HB; have HO_9 := n0_; have HO_12 := n1_; have HO388 := n2_; have HI0 := n3_; have HK := n4_; have HB := n5_; clear n0_ n1_ n2_ n3_ n4_ n5_; clear hb ho124) | ((with_reducible refine gate_callee (f := 74) rfl ?_); refine goesL_ (some 150) rfl rfl Try.func74 (by kernel_rfl) rfl #[.pointer (some ⟨g, 0, none⟩), .int .i64 3] rfl (by (try simp only [List.map_toArray, List.map_cons, List.map_nil]); first | done | rfl | (simp only [List.length_drop, List.length_take]; rfl)) ?_; (with_reducible refine (spec_l01Next.calls g s0_0 t384 t385 3 t389 t390 t391 w0 _ ?side1 ?side2 A113.out).mono ?_); (case side1 => repeat (first | (with_reducible first | exact HI0.out | apply IsS102.alloc | apply IsS102.drewN | apply IsS102.drew | apply IsS102.set_1 | apply IsS102.set_2) | exact HI0.out)); (case side2 => repeat (first | (with_reducible first | exact HB.out | apply below_alloc | apply pw_below_drewN | apply below_drew1 | refine below_set ?_ (IsS102.ge HI0.out)) | exact HB.out)); rintro e w125 ⟨rfl, hi, hb, hk⟩; refine ⟨_, rfl, ?_⟩; have n0_ := Aside0.mk (Kd.R_mono (Kd.R_keep (IsS102.apart (show IsS102 w0 _ g s0_0 t384 t385 from by repeat (first | (with_reducible first | exact HI0.out | apply IsS102.alloc | apply IsS102.drewN | apply IsS102.drew | apply IsS102.set_1 | apply IsS102.set_2) | exact HI0.out)) (by (with_reducible repeat (first | apply Kd.R_alloc | apply Kd.R_drewN | apply Kd.R_drew)); exact HO_9.out) (by decide)) hk (fun _ h => h.2)) (fun _ h => h.1)); have n1_ := Aside0.mk (Kd.Q_mono (Kd.Q_keep (IsS102.apartQ (show IsS102 w0 _ g s0_0 t384 t385 from by repeat (first | (with_reducible first | exact HI0.out | apply IsS102.alloc | apply IsS102.drewN | apply IsS102.drew | apply IsS102.set_1 | apply IsS102.set_2) | exact HI0.out)) (by (with_reducible repeat (first | apply Kd.Q_alloc | apply Kd.Q_drewN | apply Kd.Q_drew)); exact HO_12.out) (by decide)) hk (fun _ h => h.2)) (fun _ h => h.1)); have n2_ := Aside0.mk (Kd.R_mono (Kd.R_keep (IsS102.apart (show IsS102 w0 _ g s0_0 t384 t385 from by repeat (first | (with_reducible first | exact HI0.out | apply IsS102.alloc | apply IsS102.drewN | apply IsS102.drew | apply IsS102.set_1 | apply IsS102.set_2) | exact HI0.out)) (by (with_reducible repeat (first | apply Kd.R_alloc | apply Kd.R_drewN | apply Kd.R_drew)); exact HO388.out) (by decide)) hk (fun _ h => h.2)) (fun _ h => h.1)); have n3_ := Aside0.mk (KeepBut.trans (by repeat (first | (with_reducible first | exact HK.out | apply KeepBut.set_ | apply keep_drewN | apply keep_drew | apply keep_alloc) | exact HK.out)) hk (.inl rfl)); have n4_ := Aside0.mk (hb); have n5_ := Aside0.mk (hi); clear HO_9; clear HO_12; clear HO388; clear HK; clear HB; clear HI0; have HO_9 := n0_; have HO_12 := n1_; have HO388 := n2_; have HK := n3_; have HB := n4_; have HI0 := n5_; clear n0_ n1_ n2_ n3_ n4_ n5_; (try clear hb); (try clear hb2); (try clear hk); (try clear hi); obtain ⟨Ao126, co126, eo126⟩ := Kd.R_slice HO388.out; subst eo126; have p392 : 0 ≤ (t389 : Int) := of_decide_eq_true (by first | (with_reducible assumption) | assumption); have q392 : t389 < (y386.length : Int) := of_decide_eq_true (by first | (with_reducible assumption) | assumption); obtain ⟨ad392, e392, hx392_0⟩ := Kd.at_int (Kd.R_reads' HO388.out).2.2 t389 p392 q392; cases e392; replace p392 := eq_true p392; replace q392 := eq_true q392; have p118 : 0 ≤ (t380 : Int) := of_decide_eq_true (by first | (with_reducible assumption) | assumption); have q118 : (t380 : Int) < ((x12_2.length : Int) : Int) := of_decide_eq_true (by first | (with_reducible assumption) | assumption); obtain ⟨go118, oo118, co118, eo118, gb118, gl118, cl118, HG118⟩ := Kd.Q_form HO_12.out (by omega); (first | cases eo118 | (injection eo118 with ea_ en_ ec_; (first | subst ea_ | (injection ea_ with ea_; subst ea_)); subst ec_; clear en_)); have GB118 := Aside0.mk gb118; have GG118 := Aside0.mk HG118; clear gb118 gl118 HG118; obtain ⟨ce118, hcl118, hM118, hcc118, hfr118⟩ := Kd.Q_elem HO_12.out z24 (t380 : Int) p118 q118; obtain rfl := k24_openM hM118; have hx118_0 : w125.cell? ⟨go118, oo118 + (t380 : Int).toNat * 4, none⟩ = some (.int .i64 ((rd_T24 x12_2 t380).f0)) := hcc118 0 _ rfl; have hx118_1 : w125.cell? ⟨go118, oo118 + (t380 : Int).toNat * 4 + 1, none⟩ = some (.int .i64 ((rd_T24 x12_2 t380).f1)) := hcc118 1 _ rfl; have hx118_2 : w125.cell? ⟨go118, oo118 + (t380 : Int).toNat * 4 + 2, none⟩ = some (.int .i64 ((rd_T24 x12_2 t380).f2)) := hcc118 2 _ rfl; have hx118_3 : w125.cell? ⟨go118, oo118 + (t380 : Int).toNat * 4 + 3, none⟩ = some (.int .i64 ((rd_T24 x12_2 t380).f3)) := hcc118 3 _ rfl; have hf118_0 : w125.frozen? ⟨go118, oo118 + (t380 : Int).toNat * 4, none⟩ = false := hfr118 0; have hf118_1 : w125.frozen? ⟨go118, oo118 + (t380 : Int).toNat * 4 + 1, none⟩ = false := hfr118 1; have hf118_2 : w125.frozen? ⟨go118, oo118 + (t380 : Int).toNat * 4 + 2, none⟩ = false := hfr118 2; have hf118_3 : w125.frozen? ⟨go118, oo118 + (t380 : Int).toNat * 4 + 3, none⟩ = false := hfr118 3; clear hcl118 hcc118 hfr118 hM118; replace p118 := eq_true p118; replace q118 := eq_true q118; have HX127 := Aside0.mk (show Kd.Q k24 24 w125 w.heap.size (fun k_ => some k_ ≠ (.slice Ao119 x9_1.length co119 : Value).ownBlock) (.slice (some ⟨go118, oo118, none⟩) x12_2.length co120) x12_2 from (by (with_reducible repeat (first | apply Kd.Q_alloc | apply Kd.Q_drewN | apply Kd.Q_drew)); exact HO_12.out)); obtain ⟨ce127, hcl127, hM127, hcc127, hfr127⟩ := Kd.Q_elem HX127.out z24 (t380 : Int) (of_decide_eq_true (by first | (with_reducible assumption) | assumption)) (by have h_ : (t380 : Int) < ((x12_2.length : Int) : Int) := of_decide_eq_true (by first | (with_reducible assumption) | assumption); first | exact h_ | (have e_ := (Kd.Q_reads' HO_12.out).1; omega) | simpa using h_); obtain rfl := k24_openM hM127; have HP127 := Kd.Q_seg HX127.out (t380 : Int) (of_decide_eq_true (by first | (with_reducible assumption) | assumption)) (by have h_ : (t380 : Int) < ((x12_2.length : Int) : Int) := of_decide_eq_true (by first | (with_reducible assumption) | assumption); first | exact h_ | (have e_ := (Kd.Q_reads' HO_12.out).1; omega) | simpa using h_) (seg := [.int .i64 (rd y386 t389)]) (j := 0) hcl127 hcc127 (show 1 ≤ 4 from by decide) (x' := (⟨rd y386 t389, (rd_T24 x12_2 t380).f1, (rd_T24 x12_2 t380).f2, (rd_T24 x12_2 t380).f3⟩ : S24)) (k24_mkM _ _ _ (⟨rd y386 t389, (rd_T24 x12_2 t380).f1, (rd_T24 x12_2 t380).f2, (rd_T24 x12_2 t380).f3⟩ : S24) ) (fun _ hk => hk); have hx127_0 := hcc127 0 _ rfl; (try simp only [show (k24).sz = 4 from rfl, Nat.mul_one, Nat.add_zero] at hx127_0); have hf127_0 := hfr127 0; (try simp only [show (k24).sz = 4 from rfl, Nat.mul_one, Nat.add_zero] at hf127_0); clear hcl127 hcc127 hfr127 hM127) | ((with_reducible refine gate_store (t := 2) (p := 154) rfl ?_); refine store_event (t := 2) (p := 154) (v := ?vo_w128) (w1 := (w125.setCell ⟨go118, oo118 + (t380 : Int).toNat * 4, none⟩ (.int .i64 (rd y386 t389)))) ?hg ?ho ?hn ?hr ?_; (case ho => rfl); (case hg => rfl); (case hn => rfl); (case hr => first | (go_simp; done) | (go_simp; rfl)); intro w128 hw; have hg : w125.grownBy w128 (some go118) := (by rw [hw]; exact HP127.2); have hp_ : Kd.Q k24 24 w128 w.heap.size (fun k_ => some k_ ≠ (.slice Ao119 x9_1.length co119 : Value).ownBlock) (.slice (some ⟨go118, oo118, none⟩) x12_2.length co120) y393 := (by rw [hw, Ny393.out]; exact HP127.1); clear HP127; have n0_ := Aside0.mk (Kd.R_after (v := (.slice (some ⟨go118, oo118, none⟩) x12_2.length co120)) (v1 := (.slice (some ⟨go118, oo118, none⟩) x12_2.length co120)) (ok := (fun _ => True)) (by (with_reducible repeat (first | apply Kd.R_alloc | apply Kd.R_drewN | apply Kd.R_drew)); exact Kd.R_mono HO_9.out (fun _ hk => ⟨trivial, hk⟩)) hg (.inl rfl)); have n1_ := Aside0.mk (hp_); have n2_ := Aside0.mk (IsS102.grown (by repeat (first | (with_reducible first | exact HI0.out | apply IsS102.alloc | apply IsS102.drewN | apply IsS102.drew | apply IsS102.set_1 | apply IsS102.set_2) | exact HI0.out)) hg (IsS102.own_neQ HI0.out HO_12.out (by decide))); have n3_ := Aside0.mk (Kd.R_over' (v := (.slice (some ⟨go118, oo118, none⟩) x12_2.length co120)) (by (with_reducible repeat (first | apply Kd.R_alloc | apply Kd.R_drewN | apply Kd.R_drew)); exact HO388.out) (Kd.Q_typed HO_12.out) (by decide) hg); have n4_ := Aside0.mk ((by rw [hw]; exact below_set (HB.out) (Nat.le_trans HL.out GB118.out) : Below w0.heap.size w0 w128)); have n5_ := Aside0.mk (KeepBut.trans (by repeat (first | (with_reducible first | exact HK.out | apply KeepBut.set_ | apply keep_drewN | apply keep_drew | apply keep_alloc) | exact HK.out)) (KeepBut.of_grown hg g) (Kd.Q_base2 HO_12.out)); clear HO_9; clear HO_12; clear HI0; clear HO388; clear HB; clear HK; have HO_9 := n0_; have HO_12 := n1_; have HI0 := n2_; have HO388 := n3_; have HB := n4_; have HK := n5_; clear n0_ n1_ n2_ n3_ n4_ n5_; clear hg hw hp_))
                                go_ret3
                                exact ⟨_, by first | rfl | (simp [errW_none, errW_some] <;> rfl) | (simp [*, errW_none, errW_some] <;> rfl), by (with_reducible repeat (first | apply Kd.Q_alloc | apply Kd.Q_drewN | apply Kd.Q_drew)); exact Kd.Q_mono HO_12.out (fun _ hk => trivial), by repeat (first | (with_reducible first | exact HI0.out | apply IsS102.alloc | apply IsS102.drewN | apply IsS102.drew | apply IsS102.set_1 | apply IsS102.set_2) | exact HI0.out), by repeat (first | (with_reducible first | exact HB.out | apply below_alloc | apply pw_below_drewN | apply below_drew1 | refine below_set ?_ (IsS102.ge HI0.out)) | exact HB.out), by repeat (first | (with_reducible first | exact HK.out | apply KeepBut.set_ | apply keep_drewN | apply keep_drew | apply keep_alloc) | exact HK.out)⟩
                              · rw [if_neg c117] at H
                                exact absurd H (by simp)
                            · rw [if_neg c116] at H
                              exact absurd H (by simp)
                          · rw [if_neg c115] at H
                            exact absurd H (by simp)
                        · rw [if_neg c114] at H
                          exact absurd H (by simp)
                      · rw [if_neg c112] at H
                        have c112b0 : (t383 == 0) = false := beq_eq_false_iff_ne.mpr c112
                        have c112b1 : (t383 != 0) = true := bne_iff_ne.mpr c112
                        by_cases c129 : t383 = 1
                        · rw [if_pos c129] at H
                          have c129b0 : (t383 == 1) = true := beq_iff_eq.mpr c129
                          have c129b1 : (t383 != 1) = false := bne_eq_false_iff_eq.mpr c129
                          clear c129
                          by_cases c130 : 1 ≤ (x12_2.length : Int)
                          · rw [if_pos c130] at H
                            have c130b0 := eq_true c130
                            have c130b1 : decide (1 ≤ (x12_2.length : Int)) = true := decide_eq_true c130
                            clear c130
                            obtain ⟨y394, hy394⟩ : ∃ y_ : List (S24), y_ = (x12_2.drop (1 : Int).toNat) := ⟨_, rfl⟩
                            replace H : (some (y394, (rd (rd_L4 y310 t313) 0), (rd (rd_L4 y310 t313) 1), t384, t385)) = some (r1, r2, r3, r4, r5) := by first | (rw [hy394]; with_reducible exact H) | (have H2_ := (Option.bind_some _ _).symm.trans H; rw [hy394]; with_reducible exact H2_) | (have H2_ := (Option.bind_some _ _).symm.trans H; with_reducible exact H2_) | with_reducible exact H | (rw [hy394]; exact H) | exact H
                            have Ny394 := Aside0.mk hy394
                            clear hy394
                            simp only [Option.some.injEq, Prod.mk.injEq] at H
                            obtain ⟨rfl, rfl, rfl, rfl, rfl⟩ := H
                            obtain ⟨Ao131, co131, eo131⟩ := Kd.R_slice HO_9.out
                            subst eo131
                            obtain ⟨Ao132, co132, eo132, _⟩ := Kd.Q_slice HO_12.out
                            subst eo132
                            go_wp2_with (first | ((with_reducible refine gate_callee (f := 74) rfl ?_); refine goesL_ (some 141) rfl rfl Try.func74 (by kernel_rfl) rfl #[.pointer (some ⟨g, 0, none⟩), .int .i64 (x12_2.length : Int)] rfl (by (try simp only [List.map_toArray, List.map_cons, List.map_nil]); first | done | rfl | (simp only [List.length_drop, List.length_take]; rfl)) ?_; (with_reducible refine (spec_l01Next.calls g s0_0 x1001_2 x1002_2 (x12_2.length : Int) t380 t381 t382 w0 _ ?side1 ?side2 A110.out).mono ?_); (case side1 => repeat (first | (with_reducible first | exact HI0.out | apply IsS102.alloc | apply IsS102.drewN | apply IsS102.drew | apply IsS102.set_1 | apply IsS102.set_2) | exact HI0.out)); (case side2 => repeat (first | (with_reducible first | exact HB.out | apply below_alloc | apply pw_below_drewN | apply below_drew1 | refine below_set ?_ (IsS102.ge HI0.out)) | exact HB.out)); rintro e w133 ⟨rfl, hi, hb, hk⟩; refine ⟨_, rfl, ?_⟩; have n0_ := Aside0.mk (Kd.R_mono (Kd.R_keep (IsS102.apart (show IsS102 w0 _ g s0_0 x1001_2 x1002_2 from by repeat (first | (with_reducible first | exact HI0.out | apply IsS102.alloc | apply IsS102.drewN | apply IsS102.drew | apply IsS102.set_1 | apply IsS102.set_2) | exact HI0.out)) (by (with_reducible repeat (first | apply Kd.R_alloc | apply Kd.R_drewN | apply Kd.R_drew)); exact HO_9.out) (by decide)) hk (fun _ h => h.2)) (fun _ h => h.1)); have n1_ := Aside0.mk (Kd.Q_mono (Kd.Q_keep (IsS102.apartQ (show IsS102 w0 _ g s0_0 x1001_2 x1002_2 from by repeat (first | (with_reducible first | exact HI0.out | apply IsS102.alloc | apply IsS102.drewN | apply IsS102.drew | apply IsS102.set_1 | apply IsS102.set_2) | exact HI0.out)) (by (with_reducible repeat (first | apply Kd.Q_alloc | apply Kd.Q_drewN | apply Kd.Q_drew)); exact HO_12.out) (by decide)) hk (fun _ h => h.2)) (fun _ h => h.1)); have n2_ := Aside0.mk (KeepBut.trans (by repeat (first | (with_reducible first | exact HK.out | apply KeepBut.set_ | apply keep_drewN | apply keep_drew | apply keep_alloc) | exact HK.out)) hk (.inl rfl)); have n3_ := Aside0.mk (hb); have n4_ := Aside0.mk (hi); clear HO_9; clear HO_12; clear HK; clear HB; clear HI0; have HO_9 := n0_; have HO_12 := n1_; have HK := n2_; have HB := n3_; have HI0 := n4_; clear n0_ n1_ n2_ n3_ n4_; (try clear hb); (try clear hb2); (try clear hk); (try clear hi)) | ((with_reducible refine gate_callee (f := 74) rfl ?_); refine goesL_ (some 143) rfl rfl Try.func74 (by kernel_rfl) rfl #[.pointer (some ⟨g, 0, none⟩), .int .i64 16] rfl (by (try simp only [List.map_toArray, List.map_cons, List.map_nil]); first | done | rfl | (simp only [List.length_drop, List.length_take]; rfl)) ?_; (with_reducible refine (spec_l01Next.calls g s0_0 t381 t382 16 t383 t384 t385 w0 _ ?side1 ?side2 A111.out).mono ?_); (case side1 => repeat (first | (with_reducible first | exact HI0.out | apply IsS102.alloc | apply IsS102.drewN | apply IsS102.drew | apply IsS102.set_1 | apply IsS102.set_2) | exact HI0.out)); (case side2 => repeat (first | (with_reducible first | exact HB.out | apply below_alloc | apply pw_below_drewN | apply below_drew1 | refine below_set ?_ (IsS102.ge HI0.out)) | exact HB.out)); rintro e w134 ⟨rfl, hi, hb, hk⟩; refine ⟨_, rfl, ?_⟩; have n0_ := Aside0.mk (Kd.R_mono (Kd.R_keep (IsS102.apart (show IsS102 w0 _ g s0_0 t381 t382 from by repeat (first | (with_reducible first | exact HI0.out | apply IsS102.alloc | apply IsS102.drewN | apply IsS102.drew | apply IsS102.set_1 | apply IsS102.set_2) | exact HI0.out)) (by (with_reducible repeat (first | apply Kd.R_alloc | apply Kd.R_drewN | apply Kd.R_drew)); exact HO_9.out) (by decide)) hk (fun _ h => h.2)) (fun _ h => h.1)); have n1_ := Aside0.mk (Kd.Q_mono (Kd.Q_keep (IsS102.apartQ (show IsS102 w0 _ g s0_0 t381 t382 from by repeat (first | (with_reducible first | exact HI0.out | apply IsS102.alloc | apply IsS102.drewN | apply IsS102.drew | apply IsS102.set_1 | apply IsS102.set_2) | exact HI0.out)) (by (with_reducible repeat (first | apply Kd.Q_alloc | apply Kd.Q_drewN | apply Kd.Q_drew)); exact HO_12.out) (by decide)) hk (fun _ h => h.2)) (fun _ h => h.1)); have n2_ := Aside0.mk (KeepBut.trans (by repeat (first | (with_reducible first | exact HK.out | apply KeepBut.set_ | apply keep_drewN | apply keep_drew | apply keep_alloc) | exact HK.out)) hk (.inl rfl)); have n3_ := Aside0.mk (hb); have n4_ := Aside0.mk (hi); clear HO_9; clear HO_12; clear HK; clear HB; clear HI0; have HO_9 := n0_; have HO_12 := n1_; have HK := n2_; have HB := n3_; have HI0 := n4_; clear n0_ n1_ n2_ n3_ n4_; (try clear hb); (try clear hb2); (try clear hk); (try clear hi); have q135 : (1 : Int) ≤ ((x12_2.length : Int) : Int) := of_decide_eq_true (by first | (with_reducible assumption) | assumption); obtain ⟨i0135, hi0135, _, hsz135, _⟩ := info_parts info24; have hcut135 := cut_from (P := Try.prog) 34 24 .i64 Try.underlying34 hi0135 4 hsz135 Ao132 x12_2.length co132 1 (by omega) q135; have hr135 := Kd.Q_drop (k := (1 : Int).toNat) HO_12.out (by omega); obtain ⟨A135, hA135⟩ : ∃ A1, A1 = (if co132 = (1 : Int).toNat then Ao132 else (Ao132 : Option Addr).map (·.add ((1 : Int).toNat * 4))) := ⟨_, rfl⟩; obtain ⟨c135, hc135⟩ : ∃ c1, c1 = co132 - (1 : Int).toNat := ⟨_, rfl⟩; have hy135 : y394.length = x12_2.length - (1 : Int).toNat := (by rw [Ny394.out, List.length_drop]); rw [← Ny394.out] at hr135; rw [← hy135, ← hA135, ← hc135] at hcut135; replace hr135 : Kd.Q k24 24 w134 w.heap.size (fun k_ => some k_ ≠ (.slice Ao131 x9_1.length co131 : Value).ownBlock) (.slice A135 y394.length c135) y394 := (by rw [hA135, hc135, hy135]; exact hr135); have HE135 : Aside0 ((Value.slice A135 y394.length c135).ownBlock = (.slice Ao132 x12_2.length co132 : Value).ownBlock) := ⟨by rw [hA135]; split <;> (cases (Ao132 : Option Addr) <;> rfl)⟩; clear hy135 hi0135 hsz135 HO_12 hA135 hc135; have HO396 := Aside0.mk hr135; clear hr135; replace q135 := eq_true q135; have n_ := Aside0.mk (Kd.R_mono (ok' := fun k_ => some k_ ≠ (.slice A135 y394.length c135 : Value).ownBlock) HO_9.out (fun k_ hk => (by rw [HE135.out]; exact hk))); clear HO_9; have HO_9 := n_; clear n_))
                            go_ret3
                            exact ⟨_, by first | rfl | (simp [errW_none, errW_some] <;> rfl) | (simp [*, errW_none, errW_some] <;> rfl), by (with_reducible repeat (first | apply Kd.Q_alloc | apply Kd.Q_drewN | apply Kd.Q_drew)); exact Kd.Q_mono HO396.out (fun _ hk => trivial), by repeat (first | (with_reducible first | exact HI0.out | apply IsS102.alloc | apply IsS102.drewN | apply IsS102.drew | apply IsS102.set_1 | apply IsS102.set_2) | exact HI0.out), by repeat (first | (with_reducible first | exact HB.out | apply below_alloc | apply pw_below_drewN | apply below_drew1 | refine below_set ?_ (IsS102.ge HI0.out)) | exact HB.out), by repeat (first | (with_reducible first | exact HK.out | apply KeepBut.set_ | apply keep_drewN | apply keep_drew | apply keep_alloc) | exact HK.out)⟩
                          · rw [if_neg c130] at H
                            exact absurd H (by simp)
                        · rw [if_neg c129] at H
                          have c129b0 : (t383 == 1) = false := beq_eq_false_iff_ne.mpr c129
                          have c129b1 : (t383 != 1) = true := bne_iff_ne.mpr c129
                          by_cases c136 : t383 = 2
                          · rw [if_pos c136] at H
                            have c136b0 : (t383 == 2) = true := beq_iff_eq.mpr c136
                            have c136b1 : (t383 != 2) = false := bne_eq_false_iff_eq.mpr c136
                            clear c136
                            by_cases c137 : 0 ≤ t380
                            · rw [if_pos c137] at H
                              have c137b0 : decide (0 ≤ t380) = true := decide_eq_true c137
                              clear c137
                              by_cases c138 : t380 < (x12_2.length : Int)
                              · rw [if_pos c138] at H
                                have c138b0 : decide (t380 < (x12_2.length : Int)) = true := decide_eq_true c138
                                clear c138
                                obtain ⟨y398, hy398⟩ : ∃ y_ : List (S24), y_ = (x12_2.set (t380 : Int).toNat (⟨(rd_T24 x12_2 t380).f0, (rd_T24 x12_2 t380).f1, (rd_T24 x12_2 t380).f2, wrap64 (((rd_T24 x12_2 t380).f3) + 1)⟩ : S24)) := ⟨_, rfl⟩
                                replace H : (some (y398, (rd (rd_L4 y310 t313) 0), (rd (rd_L4 y310 t313) 1), t384, t385)) = some (r1, r2, r3, r4, r5) := by first | (rw [hy398]; with_reducible exact H) | (have H2_ := (Option.bind_some _ _).symm.trans H; rw [hy398]; with_reducible exact H2_) | (have H2_ := (Option.bind_some _ _).symm.trans H; with_reducible exact H2_) | with_reducible exact H | (rw [hy398]; exact H) | exact H
                                have Ny398 := Aside0.mk hy398
                                clear hy398
                                simp only [Option.some.injEq, Prod.mk.injEq] at H
                                obtain ⟨rfl, rfl, rfl, rfl, rfl⟩ := H
                                obtain ⟨Ao140, co140, eo140⟩ := Kd.R_slice HO_9.out
                                subst eo140
                                obtain ⟨Ao141, co141, eo141, _⟩ := Kd.Q_slice HO_12.out
                                subst eo141
                                go_wp2_with (first | ((with_reducible refine gate_callee (f := 74) rfl ?_); refine goesL_ (some 141) rfl rfl Try.func74 (by kernel_rfl) rfl #[.pointer (some ⟨g, 0, none⟩), .int .i64 (x12_2.length : Int)] rfl (by (try simp only [List.map_toArray, List.map_cons, List.map_nil]); first | done | rfl | (simp only [List.length_drop, List.length_take]; rfl)) ?_; (with_reducible refine (spec_l01Next.calls g s0_0 x1001_2 x1002_2 (x12_2.length : Int) t380 t381 t382 w0 _ ?side1 ?side2 A110.out).mono ?_); (case side1 => repeat (first | (with_reducible first | exact HI0.out | apply IsS102.alloc | apply IsS102.drewN | apply IsS102.drew | apply IsS102.set_1 | apply IsS102.set_2) | exact HI0.out)); (case side2 => repeat (first | (with_reducible first | exact HB.out | apply below_alloc | apply pw_below_drewN | apply below_drew1 | refine below_set ?_ (IsS102.ge HI0.out)) | exact HB.out)); rintro e w142 ⟨rfl, hi, hb, hk⟩; refine ⟨_, rfl, ?_⟩; have n0_ := Aside0.mk (Kd.R_mono (Kd.R_keep (IsS102.apart (show IsS102 w0 _ g s0_0 x1001_2 x1002_2 from by repeat (first | (with_reducible first | exact HI0.out | apply IsS102.alloc | apply IsS102.drewN | apply IsS102.drew | apply IsS102.set_1 | apply IsS102.set_2) | exact HI0.out)) (by (with_reducible repeat (first | apply Kd.R_alloc | apply Kd.R_drewN | apply Kd.R_drew)); exact HO_9.out) (by decide)) hk (fun _ h => h.2)) (fun _ h => h.1)); have n1_ := Aside0.mk (Kd.Q_mono (Kd.Q_keep (IsS102.apartQ (show IsS102 w0 _ g s0_0 x1001_2 x1002_2 from by repeat (first | (with_reducible first | exact HI0.out | apply IsS102.alloc | apply IsS102.drewN | apply IsS102.drew | apply IsS102.set_1 | apply IsS102.set_2) | exact HI0.out)) (by (with_reducible repeat (first | apply Kd.Q_alloc | apply Kd.Q_drewN | apply Kd.Q_drew)); exact HO_12.out) (by decide)) hk (fun _ h => h.2)) (fun _ h => h.1)); have n2_ := Aside0.mk (KeepBut.trans (by repeat (first | (with_reducible first | exact HK.out | apply KeepBut.set_ | apply keep_drewN | apply keep_drew | apply keep_alloc) | exact HK.out)) hk (.inl rfl)); have n3_ := Aside0.mk (hb); have n4_ := Aside0.mk (hi); clear HO_9; clear HO_12; clear HK; clear HB; clear HI0; have HO_9 := n0_; have HO_12 := n1_; have HK := n2_; have HB := n3_; have HI0 := n4_; clear n0_ n1_ n2_ n3_ n4_; (try clear hb); (try clear hb2); (try clear hk); (try clear hi)) | ((with_reducible refine gate_callee (f := 74) rfl ?_); refine goesL_ (some 143) rfl rfl Try.func74 (by kernel_rfl) rfl #[.pointer (some ⟨g, 0, none⟩), .int .i64 16] rfl (by (try simp only [List.map_toArray, List.map_cons, List.map_nil]); first | done | rfl | (simp only [List.length_drop, List.length_take]; rfl)) ?_; (with_reducible refine (spec_l01Next.calls g s0_0 t381 t382 16 t383 t384 t385 w0 _ ?side1 ?side2 A111.out).mono ?_); (case side1 => repeat (first | (with_reducible first | exact HI0.out | apply IsS102.alloc | apply IsS102.drewN | apply IsS102.drew | apply IsS102.set_1 | apply IsS102.set_2) | exact HI0.out)); (case side2 => repeat (first | (with_reducible first | exact HB.out | apply below_alloc | apply pw_below_drewN | apply below_drew1 | refine below_set ?_ (IsS102.ge HI0.out)) | exact HB.out)); rintro e w143 ⟨rfl, hi, hb, hk⟩; refine ⟨_, rfl, ?_⟩; have n0_ := Aside0.mk (Kd.R_mono (Kd.R_keep (IsS102.apart (show IsS102 w0 _ g s0_0 t381 t382 from by repeat (first | (with_reducible first | exact HI0.out | apply IsS102.alloc | apply IsS102.drewN | apply IsS102.drew | apply IsS102.set_1 | apply IsS102.set_2) | exact HI0.out)) (by (with_reducible repeat (first | apply Kd.R_alloc | apply Kd.R_drewN | apply Kd.R_drew)); exact HO_9.out) (by decide)) hk (fun _ h => h.2)) (fun _ h => h.1)); have n1_ := Aside0.mk (Kd.Q_mono (Kd.Q_keep (IsS102.apartQ (show IsS102 w0 _ g s0_0 t381 t382 from by repeat (first | (with_reducible first | exact HI0.out | apply IsS102.alloc | apply IsS102.drewN | apply IsS102.drew | apply IsS102.set_1 | apply IsS102.set_2) | exact HI0.out)) (by (with_reducible repeat (first | apply Kd.Q_alloc | apply Kd.Q_drewN | apply Kd.Q_drew)); exact HO_12.out) (by decide)) hk (fun _ h => h.2)) (fun _ h => h.1)); have n2_ := Aside0.mk (KeepBut.trans (by repeat (first | (with_reducible first | exact HK.out | apply KeepBut.set_ | apply keep_drewN | apply keep_drew | apply keep_alloc) | exact HK.out)) hk (.inl rfl)); have n3_ := Aside0.mk (hb); have n4_ := Aside0.mk (hi); clear HO_9; clear HO_12; clear HK; clear HB; clear HI0; have HO_9 := n0_; have HO_12 := n1_; have HK := n2_; have HB := n3_; have HI0 := n4_; clear n0_ n1_ n2_ n3_ n4_; (try clear hb); (try clear hb2); (try clear hk); (try clear hi); have p397 : 0 ≤ (t380 : Int) := of_decide_eq_true (by first | (with_reducible assumption) | assumption); have q397 : t380 < (x12_2.length : Int) := of_decide_eq_true (by first | (with_reducible assumption) | assumption); obtain ⟨ad397, e397, hx397_0, hx397_1, hx397_2, hx397_3⟩ := at_T24 (Kd.Q_reads' HO_12.out).2.2 t380 p397 q397; cases e397; replace p397 := eq_true p397; replace q397 := eq_true q397; have p139 : 0 ≤ (t380 : Int) := of_decide_eq_true (by first | (with_reducible assumption) | assumption); have q139 : (t380 : Int) < ((x12_2.length : Int) : Int) := of_decide_eq_true (by first | (with_reducible assumption) | assumption); obtain ⟨go139, oo139, co139, eo139, gb139, gl139, cl139, HG139⟩ := Kd.Q_form HO_12.out (by omega); (first | cases eo139 | (injection eo139 with ea_ en_ ec_; (first | subst ea_ | (injection ea_ with ea_; subst ea_)); subst ec_; clear en_)); have GB139 := Aside0.mk gb139; have GG139 := Aside0.mk HG139; clear gb139 gl139 HG139; (first | simp only [add_at] at hx397_0 | skip); (first | simp only [add_at] at hx397_1 | skip); (first | simp only [add_at] at hx397_2 | skip); (first | simp only [add_at] at hx397_3 | skip); obtain ⟨ce139, hcl139, hM139, hcc139, hfr139⟩ := Kd.Q_elem HO_12.out z24 (t380 : Int) p139 q139; obtain rfl := k24_openM hM139; have hx139_0 : w143.cell? ⟨go139, oo139 + (t380 : Int).toNat * 4, none⟩ = some (.int .i64 ((rd_T24 x12_2 t380).f0)) := hcc139 0 _ rfl; have hx139_1 : w143.cell? ⟨go139, oo139 + (t380 : Int).toNat * 4 + 1, none⟩ = some (.int .i64 ((rd_T24 x12_2 t380).f1)) := hcc139 1 _ rfl; have hx139_2 : w143.cell? ⟨go139, oo139 + (t380 : Int).toNat * 4 + 2, none⟩ = some (.int .i64 ((rd_T24 x12_2 t380).f2)) := hcc139 2 _ rfl; have hx139_3 : w143.cell? ⟨go139, oo139 + (t380 : Int).toNat * 4 + 3, none⟩ = some (.int .i64 ((rd_T24 x12_2 t380).f3)) := hcc139 3 _ rfl; have hf139_0 : w143.frozen? ⟨go139, oo139 + (t380 : Int).toNat * 4, none⟩ = false := hfr139 0; have hf139_1 : w143.frozen? ⟨go139, oo139 + (t380 : Int).toNat * 4 + 1, none⟩ = false := hfr139 1; have hf139_2 : w143.frozen? ⟨go139, oo139 + (t380 : Int).toNat * 4 + 2, none⟩ = false := hfr139 2; have hf139_3 : w143.frozen? ⟨go139, oo139 + (t380 : Int).toNat * 4 + 3, none⟩ = false := hfr139 3; clear hcl139 hcc139 hfr139 hM139; replace p139 := eq_true p139; replace q139 := eq_true q139; have HX144 := Aside0.mk (show Kd.Q k24 24 w143 w.heap.size (fun k_ => some k_ ≠ (.slice Ao140 x9_1.length co140 : Value).ownBlock) (.slice (some ⟨go139, oo139, none⟩) x12_2.length co141) x12_2 from (by (with_reducible repeat (first | apply Kd.Q_alloc | apply Kd.Q_drewN | apply Kd.Q_drew)); exact HO_12.out)); obtain ⟨ce144, hcl144, hM144, hcc144, hfr144⟩ := Kd.Q_elem HX144.out z24 (t380 : Int) (of_decide_eq_true (by first | (with_reducible assumption) | assumption)) (by have h_ : (t380 : Int) < ((x12_2.length : Int) : Int) := of_decide_eq_true (by first | (with_reducible assumption) | assumption); first | exact h_ | (have e_ := (Kd.Q_reads' HO_12.out).1; omega) | simpa using h_); obtain rfl := k24_openM hM144; have HP144 := Kd.Q_seg HX144.out (t380 : Int) (of_decide_eq_true (by first | (with_reducible assumption) | assumption)) (by have h_ : (t380 : Int) < ((x12_2.length : Int) : Int) := of_decide_eq_true (by first | (with_reducible assumption) | assumption); first | exact h_ | (have e_ := (Kd.Q_reads' HO_12.out).1; omega) | simpa using h_) (seg := [.int .i64 (wrap64 (((rd_T24 x12_2 t380).f3) + 1))]) (j := 3) hcl144 hcc144 (show 4 ≤ 4 from by decide) (x' := (⟨(rd_T24 x12_2 t380).f0, (rd_T24 x12_2 t380).f1, (rd_T24 x12_2 t380).f2, wrap64 (((rd_T24 x12_2 t380).f3) + 1)⟩ : S24)) (k24_mkM _ _ _ (⟨(rd_T24 x12_2 t380).f0, (rd_T24 x12_2 t380).f1, (rd_T24 x12_2 t380).f2, wrap64 (((rd_T24 x12_2 t380).f3) + 1)⟩ : S24) ) (fun _ hk => hk); have hx144_3 := hcc144 3 _ rfl; (try simp only [show (k24).sz = 4 from rfl, Nat.mul_one, Nat.add_zero] at hx144_3); have hf144_3 := hfr144 3; (try simp only [show (k24).sz = 4 from rfl, Nat.mul_one, Nat.add_zero] at hf144_3); clear hcl144 hcc144 hfr144 hM144) | ((with_reducible refine gate_store (t := 2) (p := 170) rfl ?_); refine store_event (t := 2) (p := 170) (v := ?vo_w145) (w1 := (w143.setCell ⟨go139, oo139 + (t380 : Int).toNat * 4 + 3, none⟩ (.int .i64 (wrap64 (((rd_T24 x12_2 t380).f3) + 1))))) ?hg ?ho ?hn ?hr ?_; (case ho => rfl); (case hg => rfl); (case hn => rfl); (case hr => first | (go_simp; done) | (go_simp; rfl)); intro w145 hw; have hg : w143.grownBy w145 (some go139) := (by rw [hw]; exact HP144.2); have hp_ : Kd.Q k24 24 w145 w.heap.size (fun k_ => some k_ ≠ (.slice Ao140 x9_1.length co140 : Value).ownBlock) (.slice (some ⟨go139, oo139, none⟩) x12_2.length co141) y398 := (by rw [hw, Ny398.out]; exact HP144.1); clear HP144; have n0_ := Aside0.mk (Kd.R_after (v := (.slice (some ⟨go139, oo139, none⟩) x12_2.length co141)) (v1 := (.slice (some ⟨go139, oo139, none⟩) x12_2.length co141)) (ok := (fun _ => True)) (by (with_reducible repeat (first | apply Kd.R_alloc | apply Kd.R_drewN | apply Kd.R_drew)); exact Kd.R_mono HO_9.out (fun _ hk => ⟨trivial, hk⟩)) hg (.inl rfl)); have n1_ := Aside0.mk (hp_); have n2_ := Aside0.mk (IsS102.grown (by repeat (first | (with_reducible first | exact HI0.out | apply IsS102.alloc | apply IsS102.drewN | apply IsS102.drew | apply IsS102.set_1 | apply IsS102.set_2) | exact HI0.out)) hg (IsS102.own_neQ HI0.out HO_12.out (by decide))); have n3_ := Aside0.mk ((by rw [hw]; exact below_set (HB.out) (Nat.le_trans HL.out GB139.out) : Below w0.heap.size w0 w145)); have n4_ := Aside0.mk (KeepBut.trans (by repeat (first | (with_reducible first | exact HK.out | apply KeepBut.set_ | apply keep_drewN | apply keep_drew | apply keep_alloc) | exact HK.out)) (KeepBut.of_grown hg g) (Kd.Q_base2 HO_12.out)); clear HO_9; clear HO_12; clear HI0; clear HB; clear HK; have HO_9 := n0_; have HO_12 := n1_; have HI0 := n2_; have HB := n3_; have HK := n4_; clear n0_ n1_ n2_ n3_ n4_; clear hg hw hp_))
                                go_ret3
                                exact ⟨_, by first | rfl | (simp [errW_none, errW_some] <;> rfl) | (simp [*, errW_none, errW_some] <;> rfl), by (with_reducible repeat (first | apply Kd.Q_alloc | apply Kd.Q_drewN | apply Kd.Q_drew)); exact Kd.Q_mono HO_12.out (fun _ hk => trivial), by repeat (first | (with_reducible first | exact HI0.out | apply IsS102.alloc | apply IsS102.drewN | apply IsS102.drew | apply IsS102.set_1 | apply IsS102.set_2) | exact HI0.out), by repeat (first | (with_reducible first | exact HB.out | apply below_alloc | apply pw_below_drewN | apply below_drew1 | refine below_set ?_ (IsS102.ge HI0.out)) | exact HB.out), by repeat (first | (with_reducible first | exact HK.out | apply KeepBut.set_ | apply keep_drewN | apply keep_drew | apply keep_alloc) | exact HK.out)⟩
                              · rw [if_neg c138] at H
                                exact absurd H (by simp)
                            · rw [if_neg c137] at H
                              exact absurd H (by simp)
                          · rw [if_neg c136] at H
                            have c136b0 : (t383 == 2) = false := beq_eq_false_iff_ne.mpr c136
                            have c136b1 : (t383 != 2) = true := bne_iff_ne.mpr c136
                            by_cases c146 : t383 = 3
                            · rw [if_pos c146] at H
                              have c146b0 : (t383 == 3) = true := beq_iff_eq.mpr c146
                              have c146b1 : (t383 != 3) = false := bne_eq_false_iff_eq.mpr c146
                              clear c146
                              simp only [Option.some.injEq, Prod.mk.injEq] at H
                              obtain ⟨rfl, rfl, rfl, rfl, rfl⟩ := H
                              obtain ⟨Ao147, co147, eo147⟩ := Kd.R_slice HO_9.out
                              subst eo147
                              obtain ⟨Ao148, co148, eo148, _⟩ := Kd.Q_slice HO_12.out
                              subst eo148
                              go_wp2_with (first | ((with_reducible refine gate_callee (f := 74) rfl ?_); refine goesL_ (some 141) rfl rfl Try.func74 (by kernel_rfl) rfl #[.pointer (some ⟨g, 0, none⟩), .int .i64 (x12_2.length : Int)] rfl (by (try simp only [List.map_toArray, List.map_cons, List.map_nil]); first | done | rfl | (simp only [List.length_drop, List.length_take]; rfl)) ?_; (with_reducible refine (spec_l01Next.calls g s0_0 x1001_2 x1002_2 (x12_2.length : Int) t380 t381 t382 w0 _ ?side1 ?side2 A110.out).mono ?_); (case side1 => repeat (first | (with_reducible first | exact HI0.out | apply IsS102.alloc | apply IsS102.drewN | apply IsS102.drew | apply IsS102.set_1 | apply IsS102.set_2) | exact HI0.out)); (case side2 => repeat (first | (with_reducible first | exact HB.out | apply below_alloc | apply pw_below_drewN | apply below_drew1 | refine below_set ?_ (IsS102.ge HI0.out)) | exact HB.out)); rintro e w149 ⟨rfl, hi, hb, hk⟩; refine ⟨_, rfl, ?_⟩; have n0_ := Aside0.mk (Kd.R_mono (Kd.R_keep (IsS102.apart (show IsS102 w0 _ g s0_0 x1001_2 x1002_2 from by repeat (first | (with_reducible first | exact HI0.out | apply IsS102.alloc | apply IsS102.drewN | apply IsS102.drew | apply IsS102.set_1 | apply IsS102.set_2) | exact HI0.out)) (by (with_reducible repeat (first | apply Kd.R_alloc | apply Kd.R_drewN | apply Kd.R_drew)); exact HO_9.out) (by decide)) hk (fun _ h => h.2)) (fun _ h => h.1)); have n1_ := Aside0.mk (Kd.Q_mono (Kd.Q_keep (IsS102.apartQ (show IsS102 w0 _ g s0_0 x1001_2 x1002_2 from by repeat (first | (with_reducible first | exact HI0.out | apply IsS102.alloc | apply IsS102.drewN | apply IsS102.drew | apply IsS102.set_1 | apply IsS102.set_2) | exact HI0.out)) (by (with_reducible repeat (first | apply Kd.Q_alloc | apply Kd.Q_drewN | apply Kd.Q_drew)); exact HO_12.out) (by decide)) hk (fun _ h => h.2)) (fun _ h => h.1)); have n2_ := Aside0.mk (KeepBut.trans (by repeat (first | (with_reducible first | exact HK.out | apply KeepBut.set_ | apply keep_drewN | apply keep_drew | apply keep_alloc) | exact HK.out)) hk (.inl rfl)); have n3_ := Aside0.mk (hb); have n4_ := Aside0.mk (hi); clear HO_9; clear HO_12; clear HK; clear HB; clear HI0; have HO_9 := n0_; have HO_12 := n1_; have HK := n2_; have HB := n3_; have HI0 := n4_; clear n0_ n1_ n2_ n3_ n4_; (try clear hb); (try clear hb2); (try clear hk); (try clear hi)) | ((with_reducible refine gate_callee (f := 74) rfl ?_); refine goesL_ (some 143) rfl rfl Try.func74 (by kernel_rfl) rfl #[.pointer (some ⟨g, 0, none⟩), .int .i64 16] rfl (by (try simp only [List.map_toArray, List.map_cons, List.map_nil]); first | done | rfl | (simp only [List.length_drop, List.length_take]; rfl)) ?_; (with_reducible refine (spec_l01Next.calls g s0_0 t381 t382 16 t383 t384 t385 w0 _ ?side1 ?side2 A111.out).mono ?_); (case side1 => repeat (first | (with_reducible first | exact HI0.out | apply IsS102.alloc | apply IsS102.drewN | apply IsS102.drew | apply IsS102.set_1 | apply IsS102.set_2) | exact HI0.out)); (case side2 => repeat (first | (with_reducible first | exact HB.out | apply below_alloc | apply pw_below_drewN | apply below_drew1 | refine below_set ?_ (IsS102.ge HI0.out)) | exact HB.out)); rintro e w150 ⟨rfl, hi, hb, hk⟩; refine ⟨_, rfl, ?_⟩; have n0_ := Aside0.mk (Kd.R_mono (Kd.R_keep (IsS102.apart (show IsS102 w0 _ g s0_0 t381 t382 from by repeat (first | (with_reducible first | exact HI0.out | apply IsS102.alloc | apply IsS102.drewN | apply IsS102.drew | apply IsS102.set_1 | apply IsS102.set_2) | exact HI0.out)) (by (with_reducible repeat (first | apply Kd.R_alloc | apply Kd.R_drewN | apply Kd.R_drew)); exact HO_9.out) (by decide)) hk (fun _ h => h.2)) (fun _ h => h.1)); have n1_ := Aside0.mk (Kd.Q_mono (Kd.Q_keep (IsS102.apartQ (show IsS102 w0 _ g s0_0 t381 t382 from by repeat (first | (with_reducible first | exact HI0.out | apply IsS102.alloc | apply IsS102.drewN | apply IsS102.drew | apply IsS102.set_1 | apply IsS102.set_2) | exact HI0.out)) (by (with_reducible repeat (first | apply Kd.Q_alloc | apply Kd.Q_drewN | apply Kd.Q_drew)); exact HO_12.out) (by decide)) hk (fun _ h => h.2)) (fun _ h => h.1)); have n2_ := Aside0.mk (KeepBut.trans (by repeat (first | (with_reducible first | exact HK.out | apply KeepBut.set_ | apply keep_drewN | apply keep_drew | apply keep_alloc) | exact HK.out)) hk (.inl rfl)); have n3_ := Aside0.mk (hb); have n4_ := Aside0.mk (hi); clear HO_9; clear HO_12; clear HK; clear HB; clear HI0; have HO_9 := n0_; have HO_12 := n1_; have HK := n2_; have HB := n3_; have HI0 := n4_; clear n0_ n1_ n2_ n3_ n4_; (try clear hb); (try clear hb2); (try clear hk); (try clear hi)))
                              go_ret3
                              exact ⟨_, by first | rfl | (simp [errW_none, errW_some] <;> rfl) | (simp [*, errW_none, errW_some] <;> rfl), by (with_reducible repeat (first | apply Kd.Q_alloc | apply Kd.Q_drewN | apply Kd.Q_drew)); exact Kd.Q_mono HO_12.out (fun _ hk => trivial), by repeat (first | (with_reducible first | exact HI0.out | apply IsS102.alloc | apply IsS102.drewN | apply IsS102.drew | apply IsS102.set_1 | apply IsS102.set_2) | exact HI0.out), by repeat (first | (with_reducible first | exact HB.out | apply below_alloc | apply pw_below_drewN | apply below_drew1 | refine below_set ?_ (IsS102.ge HI0.out)) | exact HB.out), by repeat (first | (with_reducible first | exact HK.out | apply KeepBut.set_ | apply keep_drewN | apply keep_drew | apply keep_alloc) | exact HK.out)⟩
                            · rw [if_neg c146] at H
                              have c146b0 : (t383 == 3) = false := beq_eq_false_iff_ne.mpr c146
                              have c146b1 : (t383 != 3) = true := bne_iff_ne.mpr c146
                              by_cases c151 : t383 = 4
                              · rw [if_pos c151] at H
                                have c151b0 : (t383 == 4) = true := beq_iff_eq.mpr c151
                                have c151b1 : (t383 != 4) = false := bne_eq_false_iff_eq.mpr c151
                                clear c151
                                by_cases c152 : 0 ≤ t380
                                · rw [if_pos c152] at H
                                  have c152b0 : decide (0 ≤ t380) = true := decide_eq_true c152
                                  clear c152
                                  by_cases c153 : t380 < (x12_2.length : Int)
                                  · rw [if_pos c153] at H
                                    have c153b0 : decide (t380 < (x12_2.length : Int)) = true := decide_eq_true c153
                                    clear c153
                                    obtain ⟨y400, hy400⟩ : ∃ y_ : List (S24), y_ = (x12_2.set (t380 : Int).toNat (⟨(rd_T24 x12_2 t380).f0, (rd_T24 x12_2 t380).f1, wrap64 (-((rd_T24 x12_2 t380).f2)), (rd_T24 x12_2 t380).f3⟩ : S24)) := ⟨_, rfl⟩
                                    replace H : (some (y400, (rd (rd_L4 y310 t313) 0), (rd (rd_L4 y310 t313) 1), t384, t385)) = some (r1, r2, r3, r4, r5) := by first | (rw [hy400]; with_reducible exact H) | (have H2_ := (Option.bind_some _ _).symm.trans H; rw [hy400]; with_reducible exact H2_) | (have H2_ := (Option.bind_some _ _).symm.trans H; with_reducible exact H2_) | with_reducible exact H | (rw [hy400]; exact H) | exact H
                                    have Ny400 := Aside0.mk hy400
                                    clear hy400
                                    simp only [Option.some.injEq, Prod.mk.injEq] at H
                                    obtain ⟨rfl, rfl, rfl, rfl, rfl⟩ := H
                                    obtain ⟨Ao155, co155, eo155⟩ := Kd.R_slice HO_9.out
                                    subst eo155
                                    obtain ⟨Ao156, co156, eo156, _⟩ := Kd.Q_slice HO_12.out
                                    subst eo156
                                    go_wp2_with (first | ((with_reducible refine gate_callee (f := 74) rfl ?_); refine goesL_ (some 141) rfl rfl Try.func74 (by kernel_rfl) rfl #[.pointer (some ⟨g, 0, none⟩), .int .i64 (x12_2.length : Int)] rfl (by (try simp only [List.map_toArray, List.map_cons, List.map_nil]); first | done | rfl | (simp only [List.length_drop, List.length_take]; rfl)) ?_; (with_reducible refine (spec_l01Next.calls g s0_0 x1001_2 x1002_2 (x12_2.length : Int) t380 t381 t382 w0 _ ?side1 ?side2 A110.out).mono ?_); (case side1 => repeat (first | (with_reducible first | exact HI0.out | apply IsS102.alloc | apply IsS102.drewN | apply IsS102.drew | apply IsS102.set_1 | apply IsS102.set_2) | exact HI0.out)); (case side2 => repeat (first | (with_reducible first | exact HB.out | apply below_alloc | apply pw_below_drewN | apply below_drew1 | refine below_set ?_ (IsS102.ge HI0.out)) | exact HB.out)); rintro e w157 ⟨rfl, hi, hb, hk⟩; refine ⟨_, rfl, ?_⟩; have n0_ := Aside0.mk (Kd.R_mono (Kd.R_keep (IsS102.apart (show IsS102 w0 _ g s0_0 x1001_2 x1002_2 from by repeat (first | (with_reducible first | exact HI0.out | apply IsS102.alloc | apply IsS102.drewN | apply IsS102.drew | apply IsS102.set_1 | apply IsS102.set_2) | exact HI0.out)) (by (with_reducible repeat (first | apply Kd.R_alloc | apply Kd.R_drewN | apply Kd.R_drew)); exact HO_9.out) (by decide)) hk (fun _ h => h.2)) (fun _ h => h.1)); have n1_ := Aside0.mk (Kd.Q_mono (Kd.Q_keep (IsS102.apartQ (show IsS102 w0 _ g s0_0 x1001_2 x1002_2 from by repeat (first | (with_reducible first | exact HI0.out | apply IsS102.alloc | apply IsS102.drewN | apply IsS102.drew | apply IsS102.set_1 | apply IsS102.set_2) | exact HI0.out)) (by (with_reducible repeat (first | apply Kd.Q_alloc | apply Kd.Q_drewN | apply Kd.Q_drew)); exact HO_12.out) (by decide)) hk (fun _ h => h.2)) (fun _ h => h.1)); have n2_ := Aside0.mk (KeepBut.trans (by repeat (first | (with_reducible first | exact HK.out | apply KeepBut.set_ | apply keep_drewN | apply keep_drew | apply keep_alloc) | exact HK.out)) hk (.inl rfl)); have n3_ := Aside0.mk (hb); have n4_ := Aside0.mk (hi); clear HO_9; clear HO_12; clear HK; clear HB; clear HI0; have HO_9 := n0_; have HO_12 := n1_; have HK := n2_; have HB := n3_; have HI0 := n4_; clear n0_ n1_ n2_ n3_ n4_; (try clear hb); (try clear hb2); (try clear hk); (try clear hi)) | ((with_reducible refine gate_callee (f := 74) rfl ?_); refine goesL_ (some 143) rfl rfl Try.func74 (by kernel_rfl) rfl #[.pointer (some ⟨g, 0, none⟩), .int .i64 16] rfl (by (try simp only [List.map_toArray, List.map_cons, List.map_nil]); first | done | rfl | (simp only [List.length_drop, List.length_take]; rfl)) ?_; (with_reducible refine (spec_l01Next.calls g s0_0 t381 t382 16 t383 t384 t385 w0 _ ?side1 ?side2 A111.out).mono ?_); (case side1 => repeat (first | (with_reducible first | exact HI0.out | apply IsS102.alloc | apply IsS102.drewN | apply IsS102.drew | apply IsS102.set_1 | apply IsS102.set_2) | exact HI0.out)); (case side2 => repeat (first | (with_reducible first | exact HB.out | apply below_alloc | apply pw_below_drewN | apply below_drew1 | refine below_set ?_ (IsS102.ge HI0.out)) | exact HB.out)); rintro e w158 ⟨rfl, hi, hb, hk⟩; refine ⟨_, rfl, ?_⟩; have n0_ := Aside0.mk (Kd.R_mono (Kd.R_keep (IsS102.apart (show IsS102 w0 _ g s0_0 t381 t382 from by repeat (first | (with_reducible first | exact HI0.out | apply IsS102.alloc | apply IsS102.drewN | apply IsS102.drew | apply IsS102.set_1 | apply IsS102.set_2) | exact HI0.out)) (by (with_reducible repeat (first | apply Kd.R_alloc | apply Kd.R_drewN | apply Kd.R_drew)); exact HO_9.out) (by decide)) hk (fun _ h => h.2)) (fun _ h => h.1)); have n1_ := Aside0.mk (Kd.Q_mono (Kd.Q_keep (IsS102.apartQ (show IsS102 w0 _ g s0_0 t381 t382 from by repeat (first | (with_reducible first | exact HI0.out | apply IsS102.alloc | apply IsS102.drewN | apply IsS102.drew | apply IsS102.set_1 | apply IsS102.set_2) | exact HI0.out)) (by (with_reducible repeat (first | apply Kd.Q_alloc | apply Kd.Q_drewN | apply Kd.Q_drew)); exact HO_12.out) (by decide)) hk (fun _ h => h.2)) (fun _ h => h.1)); have n2_ := Aside0.mk (KeepBut.trans (by repeat (first | (with_reducible first | exact HK.out | apply KeepBut.set_ | apply keep_drewN | apply keep_drew | apply keep_alloc) | exact HK.out)) hk (.inl rfl)); have n3_ := Aside0.mk (hb); have n4_ := Aside0.mk (hi); clear HO_9; clear HO_12; clear HK; clear HB; clear HI0; have HO_9 := n0_; have HO_12 := n1_; have HK := n2_; have HB := n3_; have HI0 := n4_; clear n0_ n1_ n2_ n3_ n4_; (try clear hb); (try clear hb2); (try clear hk); (try clear hi); have p399 : 0 ≤ (t380 : Int) := of_decide_eq_true (by first | (with_reducible assumption) | assumption); have q399 : t380 < (x12_2.length : Int) := of_decide_eq_true (by first | (with_reducible assumption) | assumption); obtain ⟨ad399, e399, hx399_0, hx399_1, hx399_2, hx399_3⟩ := at_T24 (Kd.Q_reads' HO_12.out).2.2 t380 p399 q399; cases e399; replace p399 := eq_true p399; replace q399 := eq_true q399; have p154 : 0 ≤ (t380 : Int) := of_decide_eq_true (by first | (with_reducible assumption) | assumption); have q154 : (t380 : Int) < ((x12_2.length : Int) : Int) := of_decide_eq_true (by first | (with_reducible assumption) | assumption); obtain ⟨go154, oo154, co154, eo154, gb154, gl154, cl154, HG154⟩ := Kd.Q_form HO_12.out (by omega); (first | cases eo154 | (injection eo154 with ea_ en_ ec_; (first | subst ea_ | (injection ea_ with ea_; subst ea_)); subst ec_; clear en_)); have GB154 := Aside0.mk gb154; have GG154 := Aside0.mk HG154; clear gb154 gl154 HG154; (first | simp only [add_at] at hx399_0 | skip); (first | simp only [add_at] at hx399_1 | skip); (first | simp only [add_at] at hx399_2 | skip); (first | simp only [add_at] at hx399_3 | skip); obtain ⟨ce154, hcl154, hM154, hcc154, hfr154⟩ := Kd.Q_elem HO_12.out z24 (t380 : Int) p154 q154; obtain rfl := k24_openM hM154; have hx154_0 : w158.cell? ⟨go154, oo154 + (t380 : Int).toNat * 4, none⟩ = some (.int .i64 ((rd_T24 x12_2 t380).f0)) := hcc154 0 _ rfl; have hx154_1 : w158.cell? ⟨go154, oo154 + (t380 : Int).toNat * 4 + 1, none⟩ = some (.int .i64 ((rd_T24 x12_2 t380).f1)) := hcc154 1 _ rfl; have hx154_2 : w158.cell? ⟨go154, oo154 + (t380 : Int).toNat * 4 + 2, none⟩ = some (.int .i64 ((rd_T24 x12_2 t380).f2)) := hcc154 2 _ rfl; have hx154_3 : w158.cell? ⟨go154, oo154 + (t380 : Int).toNat * 4 + 3, none⟩ = some (.int .i64 ((rd_T24 x12_2 t380).f3)) := hcc154 3 _ rfl; have hf154_0 : w158.frozen? ⟨go154, oo154 + (t380 : Int).toNat * 4, none⟩ = false := hfr154 0; have hf154_1 : w158.frozen? ⟨go154, oo154 + (t380 : Int).toNat * 4 + 1, none⟩ = false := hfr154 1; have hf154_2 : w158.frozen? ⟨go154, oo154 + (t380 : Int).toNat * 4 + 2, none⟩ = false := hfr154 2; have hf154_3 : w158.frozen? ⟨go154, oo154 + (t380 : Int).toNat * 4 + 3, none⟩ = false := hfr154 3; clear hcl154 hcc154 hfr154 hM154; replace p154 := eq_true p154; replace q154 := eq_true q154; have HX159 := Aside0.mk (show Kd.Q k24 24 w158 w.heap.size (fun k_ => some k_ ≠ (.slice Ao155 x9_1.length co155 : Value).ownBlock) (.slice (some ⟨go154, oo154, none⟩) x12_2.length co156) x12_2 from (by (with_reducible repeat (first | apply Kd.Q_alloc | apply Kd.Q_drewN | apply Kd.Q_drew)); exact HO_12.out)); obtain ⟨ce159, hcl159, hM159, hcc159, hfr159⟩ := Kd.Q_elem HX159.out z24 (t380 : Int) (of_decide_eq_true (by first | (with_reducible assumption) | assumption)) (by have h_ : (t380 : Int) < ((x12_2.length : Int) : Int) := of_decide_eq_true (by first | (with_reducible assumption) | assumption); first | exact h_ | (have e_ := (Kd.Q_reads' HO_12.out).1; omega) | simpa using h_); obtain rfl := k24_openM hM159; have HP159 := Kd.Q_seg HX159.out (t380 : Int) (of_decide_eq_true (by first | (with_reducible assumption) | assumption)) (by have h_ : (t380 : Int) < ((x12_2.length : Int) : Int) := of_decide_eq_true (by first | (with_reducible assumption) | assumption); first | exact h_ | (have e_ := (Kd.Q_reads' HO_12.out).1; omega) | simpa using h_) (seg := [.int .i64 (wrap64 (-((rd_T24 x12_2 t380).f2)))]) (j := 2) hcl159 hcc159 (show 3 ≤ 4 from by decide) (x' := (⟨(rd_T24 x12_2 t380).f0, (rd_T24 x12_2 t380).f1, wrap64 (-((rd_T24 x12_2 t380).f2)), (rd_T24 x12_2 t380).f3⟩ : S24)) (k24_mkM _ _ _ (⟨(rd_T24 x12_2 t380).f0, (rd_T24 x12_2 t380).f1, wrap64 (-((rd_T24 x12_2 t380).f2)), (rd_T24 x12_2 t380).f3⟩ : S24) ) (fun _ hk => hk); have hx159_2 := hcc159 2 _ rfl; (try simp only [show (k24).sz = 4 from rfl, Nat.mul_one, Nat.add_zero] at hx159_2); have hf159_2 := hfr159 2; (try simp only [show (k24).sz = 4 from rfl, Nat.mul_one, Nat.add_zero] at hf159_2); clear hcl159 hcc159 hfr159 hM159) | ((with_reducible refine gate_store (t := 2) (p := 186) rfl ?_); refine store_event (t := 2) (p := 186) (v := ?vo_w160) (w1 := (w158.setCell ⟨go154, oo154 + (t380 : Int).toNat * 4 + 2, none⟩ (.int .i64 (wrap64 (-((rd_T24 x12_2 t380).f2)))))) ?hg ?ho ?hn ?hr ?_; (case ho => rfl); (case hg => rfl); (case hn => rfl); (case hr => first | (go_simp; done) | (go_simp; rfl)); intro w160 hw; have hg : w158.grownBy w160 (some go154) := (by rw [hw]; exact HP159.2); have hp_ : Kd.Q k24 24 w160 w.heap.size (fun k_ => some k_ ≠ (.slice Ao155 x9_1.length co155 : Value).ownBlock) (.slice (some ⟨go154, oo154, none⟩) x12_2.length co156) y400 := (by rw [hw, Ny400.out]; exact HP159.1); clear HP159; have n0_ := Aside0.mk (Kd.R_after (v := (.slice (some ⟨go154, oo154, none⟩) x12_2.length co156)) (v1 := (.slice (some ⟨go154, oo154, none⟩) x12_2.length co156)) (ok := (fun _ => True)) (by (with_reducible repeat (first | apply Kd.R_alloc | apply Kd.R_drewN | apply Kd.R_drew)); exact Kd.R_mono HO_9.out (fun _ hk => ⟨trivial, hk⟩)) hg (.inl rfl)); have n1_ := Aside0.mk (hp_); have n2_ := Aside0.mk (IsS102.grown (by repeat (first | (with_reducible first | exact HI0.out | apply IsS102.alloc | apply IsS102.drewN | apply IsS102.drew | apply IsS102.set_1 | apply IsS102.set_2) | exact HI0.out)) hg (IsS102.own_neQ HI0.out HO_12.out (by decide))); have n3_ := Aside0.mk ((by rw [hw]; exact below_set (HB.out) (Nat.le_trans HL.out GB154.out) : Below w0.heap.size w0 w160)); have n4_ := Aside0.mk (KeepBut.trans (by repeat (first | (with_reducible first | exact HK.out | apply KeepBut.set_ | apply keep_drewN | apply keep_drew | apply keep_alloc) | exact HK.out)) (KeepBut.of_grown hg g) (Kd.Q_base2 HO_12.out)); clear HO_9; clear HO_12; clear HI0; clear HB; clear HK; have HO_9 := n0_; have HO_12 := n1_; have HI0 := n2_; have HB := n3_; have HK := n4_; clear n0_ n1_ n2_ n3_ n4_; clear hg hw hp_))
                                    go_ret3
                                    exact ⟨_, by first | rfl | (simp [errW_none, errW_some] <;> rfl) | (simp [*, errW_none, errW_some] <;> rfl), by (with_reducible repeat (first | apply Kd.Q_alloc | apply Kd.Q_drewN | apply Kd.Q_drew)); exact Kd.Q_mono HO_12.out (fun _ hk => trivial), by repeat (first | (with_reducible first | exact HI0.out | apply IsS102.alloc | apply IsS102.drewN | apply IsS102.drew | apply IsS102.set_1 | apply IsS102.set_2) | exact HI0.out), by repeat (first | (with_reducible first | exact HB.out | apply below_alloc | apply pw_below_drewN | apply below_drew1 | refine below_set ?_ (IsS102.ge HI0.out)) | exact HB.out), by repeat (first | (with_reducible first | exact HK.out | apply KeepBut.set_ | apply keep_drewN | apply keep_drew | apply keep_alloc) | exact HK.out)⟩
                                  · rw [if_neg c153] at H
                                    exact absurd H (by simp)
                                · rw [if_neg c152] at H
                                  exact absurd H (by simp)
                              · rw [if_neg c151] at H
                                have c151b0 : (t383 == 4) = false := beq_eq_false_iff_ne.mpr c151
                                have c151b1 : (t383 != 4) = true := bne_iff_ne.mpr c151
                                simp only [Option.some.injEq, Prod.mk.injEq] at H
                                obtain ⟨rfl, rfl, rfl, rfl, rfl⟩ := H
                                obtain ⟨Ao161, co161, eo161⟩ := Kd.R_slice HO_9.out
                                subst eo161
                                obtain ⟨Ao162, co162, eo162, _⟩ := Kd.Q_slice HO_12.out
                                subst eo162
                                go_wp2_with (first | ((with_reducible refine gate_callee (f := 74) rfl ?_); refine goesL_ (some 141) rfl rfl Try.func74 (by kernel_rfl) rfl #[.pointer (some ⟨g, 0, none⟩), .int .i64 (x12_2.length : Int)] rfl (by (try simp only [List.map_toArray, List.map_cons, List.map_nil]); first | done | rfl | (simp only [List.length_drop, List.length_take]; rfl)) ?_; (with_reducible refine (spec_l01Next.calls g s0_0 x1001_2 x1002_2 (x12_2.length : Int) t380 t381 t382 w0 _ ?side1 ?side2 A110.out).mono ?_); (case side1 => repeat (first | (with_reducible first | exact HI0.out | apply IsS102.alloc | apply IsS102.drewN | apply IsS102.drew | apply IsS102.set_1 | apply IsS102.set_2) | exact HI0.out)); (case side2 => repeat (first | (with_reducible first | exact HB.out | apply below_alloc | apply pw_below_drewN | apply below_drew1 | refine below_set ?_ (IsS102.ge HI0.out)) | exact HB.out)); rintro e w163 ⟨rfl, hi, hb, hk⟩; refine ⟨_, rfl, ?_⟩; have n0_ := Aside0.mk (Kd.R_mono (Kd.R_keep (IsS102.apart (show IsS102 w0 _ g s0_0 x1001_2 x1002_2 from by repeat (first | (with_reducible first | exact HI0.out | apply IsS102.alloc | apply IsS102.drewN | apply IsS102.drew | apply IsS102.set_1 | apply IsS102.set_2) | exact HI0.out)) (by (with_reducible repeat (first | apply Kd.R_alloc | apply Kd.R_drewN | apply Kd.R_drew)); exact HO_9.out) (by decide)) hk (fun _ h => h.2)) (fun _ h => h.1)); have n1_ := Aside0.mk (Kd.Q_mono (Kd.Q_keep (IsS102.apartQ (show IsS102 w0 _ g s0_0 x1001_2 x1002_2 from by repeat (first | (with_reducible first | exact HI0.out | apply IsS102.alloc | apply IsS102.drewN | apply IsS102.drew | apply IsS102.set_1 | apply IsS102.set_2) | exact HI0.out)) (by (with_reducible repeat (first | apply Kd.Q_alloc | apply Kd.Q_drewN | apply Kd.Q_drew)); exact HO_12.out) (by decide)) hk (fun _ h => h.2)) (fun _ h => h.1)); have n2_ := Aside0.mk (KeepBut.trans (by repeat (first | (with_reducible first | exact HK.out | apply KeepBut.set_ | apply keep_drewN | apply keep_drew | apply keep_alloc) | exact HK.out)) hk (.inl rfl)); have n3_ := Aside0.mk (hb); have n4_ := Aside0.mk (hi); clear HO_9; clear HO_12; clear HK; clear HB; clear HI0; have HO_9 := n0_; have HO_12 := n1_; have HK := n2_; have HB := n3_; have HI0 := n4_; clear n0_ n1_ n2_ n3_ n4_; (try clear hb); (try clear hb2); (try clear hk); (try clear hi)) | ((with_reducible refine gate_callee (f := 74) rfl ?_); refine goesL_ (some 143) rfl rfl Try.func74 (by kernel_rfl) rfl #[.pointer (some ⟨g, 0, none⟩), .int .i64 16] rfl (by (try simp only [List.map_toArray, List.map_cons, List.map_nil]); first | done | rfl | (simp only [List.length_drop, List.length_take]; rfl)) ?_; (with_reducible refine (spec_l01Next.calls g s0_0 t381 t382 16 t383 t384 t385 w0 _ ?side1 ?side2 A111.out).mono ?_); (case side1 => repeat (first | (with_reducible first | exact HI0.out | apply IsS102.alloc | apply IsS102.drewN | apply IsS102.drew | apply IsS102.set_1 | apply IsS102.set_2) | exact HI0.out)); (case side2 => repeat (first | (with_reducible first | exact HB.out | apply below_alloc | apply pw_below_drewN | apply below_drew1 | refine below_set ?_ (IsS102.ge HI0.out)) | exact HB.out)); rintro e w164 ⟨rfl, hi, hb, hk⟩; refine ⟨_, rfl, ?_⟩; have n0_ := Aside0.mk (Kd.R_mono (Kd.R_keep (IsS102.apart (show IsS102 w0 _ g s0_0 t381 t382 from by repeat (first | (with_reducible first | exact HI0.out | apply IsS102.alloc | apply IsS102.drewN | apply IsS102.drew | apply IsS102.set_1 | apply IsS102.set_2) | exact HI0.out)) (by (with_reducible repeat (first | apply Kd.R_alloc | apply Kd.R_drewN | apply Kd.R_drew)); exact HO_9.out) (by decide)) hk (fun _ h => h.2)) (fun _ h => h.1)); have n1_ := Aside0.mk (Kd.Q_mono (Kd.Q_keep (IsS102.apartQ (show IsS102 w0 _ g s0_0 t381 t382 from by repeat (first | (with_reducible first | exact HI0.out | apply IsS102.alloc | apply IsS102.drewN | apply IsS102.drew | apply IsS102.set_1 | apply IsS102.set_2) | exact HI0.out)) (by (with_reducible repeat (first | apply Kd.Q_alloc | apply Kd.Q_drewN | apply Kd.Q_drew)); exact HO_12.out) (by decide)) hk (fun _ h => h.2)) (fun _ h => h.1)); have n2_ := Aside0.mk (KeepBut.trans (by repeat (first | (with_reducible first | exact HK.out | apply KeepBut.set_ | apply keep_drewN | apply keep_drew | apply keep_alloc) | exact HK.out)) hk (.inl rfl)); have n3_ := Aside0.mk (hb); have n4_ := Aside0.mk (hi); clear HO_9; clear HO_12; clear HK; clear HB; clear HI0; have HO_9 := n0_; have HO_12 := n1_; have HK := n2_; have HB := n3_; have HI0 := n4_; clear n0_ n1_ n2_ n3_ n4_; (try clear hb); (try clear hb2); (try clear hk); (try clear hi)))
                                go_ret3
                                exact ⟨_, by first | rfl | (simp [errW_none, errW_some] <;> rfl) | (simp [*, errW_none, errW_some] <;> rfl), by (with_reducible repeat (first | apply Kd.Q_alloc | apply Kd.Q_drewN | apply Kd.Q_drew)); exact Kd.Q_mono HO_12.out (fun _ hk => trivial), by repeat (first | (with_reducible first | exact HI0.out | apply IsS102.alloc | apply IsS102.drewN | apply IsS102.drew | apply IsS102.set_1 | apply IsS102.set_2) | exact HI0.out), by repeat (first | (with_reducible first | exact HB.out | apply below_alloc | apply pw_below_drewN | apply below_drew1 | refine below_set ?_ (IsS102.ge HI0.out)) | exact HB.out), by repeat (first | (with_reducible first | exact HK.out | apply KeepBut.set_ | apply keep_drewN | apply keep_drew | apply keep_alloc) | exact HK.out)⟩
        · rw [if_neg c6] at H
          exact absurd H (by simp)
      · rw [if_neg c5] at H
        exact absurd H (by simp)
    · rw [if_neg c4] at H
      exact absurd H (by simp)
  · rw [if_neg c3] at H
    exact absurd H (by simp)

end Go.Proofs.Ytgcagmmghckbbaa.A

