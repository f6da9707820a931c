-- Made by this session's own program (wip/patch_print.py, over the kit's print). Lean checks it.
import Derived.Test.YtfijdkjibjdbiaaPrint0
import Derived.Test.YtfijdkjibjdbiaaPrintB
import Derived.Test.YtfijdkjibjdbiaaPrintF10
import Derived.Test.YtfijdkjibjdbiaaPrintF14
import Derived.Test.YtfijdkjibjdbiaaPrintF23
import Derived.Test.YtfijdkjibjdbiaaPrintF24
namespace Go.Proofs.Ytfijdkjibjdbiaa.Print
open Go.RowKit Go.Proofs.YtfijdkjibjdbiaaW.PrintWords Go.Proofs.YtfijdkjibjdbiaaW.PrintLast Go.Proofs.YtfijdkjibjdbiaaW.PrintMore Go.Proofs.YtfijdkjibjdbiaaX
attribute [local go_sem] max2_int min2_int max_two min_two max_three min_three max_four min_four   -- for this text's walks alone
set_option linter.unusedVariables false
set_option linter.unusedSimpArgs false

/-! ### impl_TurnAll: function 8 -/
mutual
def impl_TurnAll.j0 : Nat → List (S60) → Int → Bool → Int → List (S36) → Option (List Int)
  | 0, _, _, _, _, _ => none
  | k + 1, x1, x2, x28, x284000, x284001 => if x28 = true then (some ([] : List Int)) else ((slices_Repeat_int_int.f (([99999] : List Int)) (x284001.length : Int)).bind fun t292 => (impl_TurnAll.l0 k x1 x2 t292 true x284000 x284001))
def impl_TurnAll.l0 : Nat → List (S60) → Int → List Int → Bool → Int → List (S36) → Option (List Int)
  | 0, _, _, _, _, _, _ => none
  | k + 1, x1, x2, x7, x8, x284000, x284001 => if x8 = true then (impl_TurnAll.l1 k x1 x2 x7 false x284001 (x284001.length : Int) 0 x284000 x284001) else ((slices_Repeat_int_int.f (([99999] : List Int)) x284000).bind fun t307 => (if 0 ≤ x2 then (if x2 < (t307.length : Int) then (impl_TurnAll.l3 k x7 (t307.set (x2 : Int).toNat 0) x284001 (x284001.length : Int) 0) else (none)) else (none)))
def impl_TurnAll.l1 : Nat → List (S60) → Int → List Int → Bool → List (S36) → Int → Int → Int → List (S36) → Option (List Int)
  | 0, _, _, _, _, _, _, _, _, _ => none
  | k + 1, x1, x2, x7, x8, x36, x37, x38, x284000, x284001 => if x38 < x37 then (if 0 ≤ x38 then (if x38 < (x36.length : Int) then (if ((rd_T36 x36 x38).f0) = x2 then (impl_TurnAll.j3 k x1 x2 x7 x8 x38 ((rd_T36 x36 x38).f2) x36 x37 x38 x284000 x284001 ((rd_T36 x36 x38).f0) ((rd_T36 x36 x38).f1) ((rd_T36 x36 x38).f2) ((rd_T36 x36 x38).f3) ((rd_T36 x36 x38).f4)) else (impl_TurnAll.j3 k x1 x2 x7 x8 x38 99999 x36 x37 x38 x284000 x284001 ((rd_T36 x36 x38).f0) ((rd_T36 x36 x38).f1) ((rd_T36 x36 x38).f2) ((rd_T36 x36 x38).f3) ((rd_T36 x36 x38).f4))) else (none)) else (none)) else (impl_TurnAll.l0 k x1 x2 x7 x8 x284000 x284001)
def impl_TurnAll.j3 : Nat → List (S60) → Int → List Int → Bool → Int → Int → List (S36) → Int → Int → Int → List (S36) → Int → Int → Int → Int → Int → Option (List Int)
  | 0, _, _, _, _, _, _, _, _, _, _, _, _, _, _, _, _ => none
  | k + 1, x1, x2, x7, x8, x9, x11, x36, x37, x38, x284000, x284001, x297000, x297001, x297002, x297003, x297004 => impl_TurnAll.l2 k x1 x2 x7 x8 x9 x11 x36 x37 x38 x284001 (x284001.length : Int) 0 x284000 x284001 x297000 x297001 x297002 x297003 x297004
def impl_TurnAll.l2 : Nat → List (S60) → Int → List Int → Bool → Int → Int → List (S36) → Int → Int → List (S36) → Int → Int → Int → List (S36) → Int → Int → Int → Int → Int → Option (List Int)
  | 0, _, _, _, _, _, _, _, _, _, _, _, _, _, _, _, _, _, _, _ => none
  | k + 1, x1, x2, x7, x8, x9, x11, x36, x37, x38, x50, x51, x52, x284000, x284001, x297000, x297001, x297002, x297003, x297004 => if x52 < x51 then (if 0 ≤ x52 then (if x52 < (x50.length : Int) then ((impl_turning.f k x1 x52 x9).bind fun t299 => (if ((rd_T36 x50 x52).f1) = x297000 then (if x52 < (x7.length : Int) then (if (rd x7 x52) < 99999 then (if t299 ≥ 0 then (impl_TurnAll.l2 k x1 x2 x7 x8 x9 (mn x11 (wrap64 ((wrap64 ((rd x7 x52) + t299)) + x297002))) x36 x37 x38 x50 x51 (wrap64 (x52 + 1)) x284000 x284001 x297000 x297001 x297002 x297003 x297004) else (impl_TurnAll.l2 k x1 x2 x7 x8 x9 x11 x36 x37 x38 x50 x51 (wrap64 (x52 + 1)) x284000 x284001 x297000 x297001 x297002 x297003 x297004)) else (impl_TurnAll.l2 k x1 x2 x7 x8 x9 x11 x36 x37 x38 x50 x51 (wrap64 (x52 + 1)) x284000 x284001 x297000 x297001 x297002 x297003 x297004)) else (none)) else (impl_TurnAll.l2 k x1 x2 x7 x8 x9 x11 x36 x37 x38 x50 x51 (wrap64 (x52 + 1)) x284000 x284001 x297000 x297001 x297002 x297003 x297004))) else (none)) else (none)) else (if 0 ≤ x9 then (if x9 < (x7.length : Int) then (if x11 < (rd x7 x9) then (impl_TurnAll.l1 k x1 x2 (x7.set (x9 : Int).toNat x11) true x36 x37 (wrap64 (x38 + 1)) x284000 x284001) else (impl_TurnAll.l1 k x1 x2 x7 x8 x36 x37 (wrap64 (x38 + 1)) x284000 x284001)) else (none)) else (none))
def impl_TurnAll.l3 : Nat → List Int → List Int → List (S36) → Int → Int → Option (List Int)
  | 0, _, _, _, _, _ => none
  | k + 1, x7, x15, x108, x109, x110 => if x110 < x109 then (if 0 ≤ x110 then (if x110 < (x108.length : Int) then (if 0 ≤ ((rd_T36 x108 x110).f1) then (if ((rd_T36 x108 x110).f1) < (x15.length : Int) then (if x110 < (x7.length : Int) then (impl_TurnAll.l3 k x7 (x15.set (((rd_T36 x108 x110).f1) : Int).toNat (mn (rd x15 ((rd_T36 x108 x110).f1)) (rd x7 x110))) x108 x109 (wrap64 (x110 + 1))) else (none)) else (none)) else (none)) else (none)) else (none)) else ((slices_Clip_int_int.f x15).bind fun t316 => (some t316))
end
def impl_TurnAll.f (k : Nat) (a0_0 : Int) (l0_1 : List (S36)) (l1 : List (S60)) (a2 : Int) : Option (List Int) := (impl_TurnsOk.f k a0_0 l0_1 l1).bind fun t284 => (if t284 = true then ((impl_Net_has.f a0_0 l0_1 (([a2] : List Int))).bind fun t288 => (impl_TurnAll.j0 k l1 a2 (!t288) a0_0 l0_1)) else (impl_TurnAll.j0 k l1 a2 true a0_0 l0_1))
theorem impl_TurnAll.mono_l : ∀ k, (∀ y0 y1 y2 y3 y4, LeO (impl_TurnAll.j0 k y0 y1 y2 y3 y4) (impl_TurnAll.j0 (k + 1) y0 y1 y2 y3 y4)) ∧ (∀ y0 y1 y2 y3 y4 y5, LeO (impl_TurnAll.l0 k y0 y1 y2 y3 y4 y5) (impl_TurnAll.l0 (k + 1) y0 y1 y2 y3 y4 y5)) ∧ (∀ y0 y1 y2 y3 y4 y5 y6 y7 y8, LeO (impl_TurnAll.l1 k y0 y1 y2 y3 y4 y5 y6 y7 y8) (impl_TurnAll.l1 (k + 1) y0 y1 y2 y3 y4 y5 y6 y7 y8)) ∧ (∀ y0 y1 y2 y3 y4 y5 y6 y7 y8 y9 y10 y11 y12 y13 y14 y15, LeO (impl_TurnAll.j3 k y0 y1 y2 y3 y4 y5 y6 y7 y8 y9 y10 y11 y12 y13 y14 y15) (impl_TurnAll.j3 (k + 1) y0 y1 y2 y3 y4 y5 y6 y7 y8 y9 y10 y11 y12 y13 y14 y15)) ∧ (∀ y0 y1 y2 y3 y4 y5 y6 y7 y8 y9 y10 y11 y12 y13 y14 y15 y16 y17 y18, LeO (impl_TurnAll.l2 k y0 y1 y2 y3 y4 y5 y6 y7 y8 y9 y10 y11 y12 y13 y14 y15 y16 y17 y18) (impl_TurnAll.l2 (k + 1) y0 y1 y2 y3 y4 y5 y6 y7 y8 y9 y10 y11 y12 y13 y14 y15 y16 y17 y18)) ∧ (∀ y0 y1 y2 y3 y4, LeO (impl_TurnAll.l3 k y0 y1 y2 y3 y4) (impl_TurnAll.l3 (k + 1) y0 y1 y2 y3 y4))
  | 0 => ⟨fun _ _ _ _ _ r h => by simp [impl_TurnAll.j0] at h, fun _ _ _ _ _ _ r h => by simp [impl_TurnAll.l0] at h, fun _ _ _ _ _ _ _ _ _ r h => by simp [impl_TurnAll.l1] at h, fun _ _ _ _ _ _ _ _ _ _ _ _ _ _ _ _ r h => by simp [impl_TurnAll.j3] at h, fun _ _ _ _ _ _ _ _ _ _ _ _ _ _ _ _ _ _ _ r h => by simp [impl_TurnAll.l2] at h, fun _ _ _ _ _ r h => by simp [impl_TurnAll.l3] at h⟩
  | k + 1 => by
    obtain ⟨ih0, ih1, ih2, ih3, ih4, ih5⟩ := impl_TurnAll.mono_l k
    refine ⟨?_, ?_, ?_, ?_, ?_, ?_⟩
    · intro y0 y1 y2 y3 y4
      unfold impl_TurnAll.j0
      repeat' first | (with_reducible first | exact ih0 _ _ _ _ _ | exact ih1 _ _ _ _ _ _ | exact ih2 _ _ _ _ _ _ _ _ _ | exact ih3 _ _ _ _ _ _ _ _ _ _ _ _ _ _ _ _ | exact ih4 _ _ _ _ _ _ _ _ _ _ _ _ _ _ _ _ _ _ _ | exact ih5 _ _ _ _ _ | exact impl_TurnsOk.mono _ _ _ _ | exact impl_turning.mono _ _ _ _ | exact LeO.refl _ | exact LeO.none _ | refine LeO.ite ?_ ?_ | refine LeO.bind ?_ (fun _ => ?_)) | exact ih0 _ _ _ _ _ | exact ih1 _ _ _ _ _ _ | exact ih2 _ _ _ _ _ _ _ _ _ | exact ih3 _ _ _ _ _ _ _ _ _ _ _ _ _ _ _ _ | exact ih4 _ _ _ _ _ _ _ _ _ _ _ _ _ _ _ _ _ _ _ | exact ih5 _ _ _ _ _ | exact impl_TurnsOk.mono _ _ _ _ | exact impl_turning.mono _ _ _ _ | exact LeO.none _ | refine LeO.ite ?_ ?_ | refine LeO.bind ?_ (fun _ => ?_)
    · intro y0 y1 y2 y3 y4 y5
      unfold impl_TurnAll.l0
      repeat' first | (with_reducible first | exact ih0 _ _ _ _ _ | exact ih1 _ _ _ _ _ _ | exact ih2 _ _ _ _ _ _ _ _ _ | exact ih3 _ _ _ _ _ _ _ _ _ _ _ _ _ _ _ _ | exact ih4 _ _ _ _ _ _ _ _ _ _ _ _ _ _ _ _ _ _ _ | exact ih5 _ _ _ _ _ | exact impl_TurnsOk.mono _ _ _ _ | exact impl_turning.mono _ _ _ _ | exact LeO.refl _ | exact LeO.none _ | refine LeO.ite ?_ ?_ | refine LeO.bind ?_ (fun _ => ?_)) | exact ih0 _ _ _ _ _ | exact ih1 _ _ _ _ _ _ | exact ih2 _ _ _ _ _ _ _ _ _ | exact ih3 _ _ _ _ _ _ _ _ _ _ _ _ _ _ _ _ | exact ih4 _ _ _ _ _ _ _ _ _ _ _ _ _ _ _ _ _ _ _ | exact ih5 _ _ _ _ _ | exact impl_TurnsOk.mono _ _ _ _ | exact impl_turning.mono _ _ _ _ | exact LeO.none _ | refine LeO.ite ?_ ?_ | refine LeO.bind ?_ (fun _ => ?_)
    · intro y0 y1 y2 y3 y4 y5 y6 y7 y8
      unfold impl_TurnAll.l1
      repeat' first | (with_reducible first | exact ih0 _ _ _ _ _ | exact ih1 _ _ _ _ _ _ | exact ih2 _ _ _ _ _ _ _ _ _ | exact ih3 _ _ _ _ _ _ _ _ _ _ _ _ _ _ _ _ | exact ih4 _ _ _ _ _ _ _ _ _ _ _ _ _ _ _ _ _ _ _ | exact ih5 _ _ _ _ _ | exact impl_TurnsOk.mono _ _ _ _ | exact impl_turning.mono _ _ _ _ | exact LeO.refl _ | exact LeO.none _ | refine LeO.ite ?_ ?_ | refine LeO.bind ?_ (fun _ => ?_)) | exact ih0 _ _ _ _ _ | exact ih1 _ _ _ _ _ _ | exact ih2 _ _ _ _ _ _ _ _ _ | exact ih3 _ _ _ _ _ _ _ _ _ _ _ _ _ _ _ _ | exact ih4 _ _ _ _ _ _ _ _ _ _ _ _ _ _ _ _ _ _ _ | exact ih5 _ _ _ _ _ | exact impl_TurnsOk.mono _ _ _ _ | exact impl_turning.mono _ _ _ _ | exact LeO.none _ | refine LeO.ite ?_ ?_ | refine LeO.bind ?_ (fun _ => ?_)
    · intro y0 y1 y2 y3 y4 y5 y6 y7 y8 y9 y10 y11 y12 y13 y14 y15
      unfold impl_TurnAll.j3
      repeat' first | (with_reducible first | exact ih0 _ _ _ _ _ | exact ih1 _ _ _ _ _ _ | exact ih2 _ _ _ _ _ _ _ _ _ | exact ih3 _ _ _ _ _ _ _ _ _ _ _ _ _ _ _ _ | exact ih4 _ _ _ _ _ _ _ _ _ _ _ _ _ _ _ _ _ _ _ | exact ih5 _ _ _ _ _ | exact impl_TurnsOk.mono _ _ _ _ | exact impl_turning.mono _ _ _ _ | exact LeO.refl _ | exact LeO.none _ | refine LeO.ite ?_ ?_ | refine LeO.bind ?_ (fun _ => ?_)) | exact ih0 _ _ _ _ _ | exact ih1 _ _ _ _ _ _ | exact ih2 _ _ _ _ _ _ _ _ _ | exact ih3 _ _ _ _ _ _ _ _ _ _ _ _ _ _ _ _ | exact ih4 _ _ _ _ _ _ _ _ _ _ _ _ _ _ _ _ _ _ _ | exact ih5 _ _ _ _ _ | exact impl_TurnsOk.mono _ _ _ _ | exact impl_turning.mono _ _ _ _ | exact LeO.none _ | refine LeO.ite ?_ ?_ | refine LeO.bind ?_ (fun _ => ?_)
    · intro y0 y1 y2 y3 y4 y5 y6 y7 y8 y9 y10 y11 y12 y13 y14 y15 y16 y17 y18
      unfold impl_TurnAll.l2
      repeat' first | (with_reducible first | exact ih0 _ _ _ _ _ | exact ih1 _ _ _ _ _ _ | exact ih2 _ _ _ _ _ _ _ _ _ | exact ih3 _ _ _ _ _ _ _ _ _ _ _ _ _ _ _ _ | exact ih4 _ _ _ _ _ _ _ _ _ _ _ _ _ _ _ _ _ _ _ | exact ih5 _ _ _ _ _ | exact impl_TurnsOk.mono _ _ _ _ | exact impl_turning.mono _ _ _ _ | exact LeO.refl _ | exact LeO.none _ | refine LeO.ite ?_ ?_ | refine LeO.bind ?_ (fun _ => ?_)) | exact ih0 _ _ _ _ _ | exact ih1 _ _ _ _ _ _ | exact ih2 _ _ _ _ _ _ _ _ _ | exact ih3 _ _ _ _ _ _ _ _ _ _ _ _ _ _ _ _ | exact ih4 _ _ _ _ _ _ _ _ _ _ _ _ _ _ _ _ _ _ _ | exact ih5 _ _ _ _ _ | exact impl_TurnsOk.mono _ _ _ _ | exact impl_turning.mono _ _ _ _ | exact LeO.none _ | refine LeO.ite ?_ ?_ | refine LeO.bind ?_ (fun _ => ?_)
    · intro y0 y1 y2 y3 y4
      unfold impl_TurnAll.l3
      repeat' first | (with_reducible first | exact ih0 _ _ _ _ _ | exact ih1 _ _ _ _ _ _ | exact ih2 _ _ _ _ _ _ _ _ _ | exact ih3 _ _ _ _ _ _ _ _ _ _ _ _ _ _ _ _ | exact ih4 _ _ _ _ _ _ _ _ _ _ _ _ _ _ _ _ _ _ _ | exact ih5 _ _ _ _ _ | exact impl_TurnsOk.mono _ _ _ _ | exact impl_turning.mono _ _ _ _ | exact LeO.refl _ | exact LeO.none _ | refine LeO.ite ?_ ?_ | refine LeO.bind ?_ (fun _ => ?_)) | exact ih0 _ _ _ _ _ | exact ih1 _ _ _ _ _ _ | exact ih2 _ _ _ _ _ _ _ _ _ | exact ih3 _ _ _ _ _ _ _ _ _ _ _ _ _ _ _ _ | exact ih4 _ _ _ _ _ _ _ _ _ _ _ _ _ _ _ _ _ _ _ | exact ih5 _ _ _ _ _ | exact impl_TurnsOk.mono _ _ _ _ | exact impl_turning.mono _ _ _ _ | exact LeO.none _ | refine LeO.ite ?_ ?_ | refine LeO.bind ?_ (fun _ => ?_)
theorem impl_TurnAll.mono : ∀ a0 a1 a2 a3 k, LeO (impl_TurnAll.f k a0 a1 a2 a3) (impl_TurnAll.f (k + 1) a0 a1 a2 a3) := by
  intro a0 a1 a2 a3 k
  obtain ⟨ih0, ih1, ih2, ih3, ih4, ih5⟩ := impl_TurnAll.mono_l k
  unfold impl_TurnAll.f
  repeat' first | (with_reducible first | exact ih0 _ _ _ _ _ | exact ih1 _ _ _ _ _ _ | exact ih2 _ _ _ _ _ _ _ _ _ | exact ih3 _ _ _ _ _ _ _ _ _ _ _ _ _ _ _ _ | exact ih4 _ _ _ _ _ _ _ _ _ _ _ _ _ _ _ _ _ _ _ | exact ih5 _ _ _ _ _ | exact impl_TurnsOk.mono _ _ _ _ | exact impl_turning.mono _ _ _ _ | exact LeO.refl _ | exact LeO.none _ | refine LeO.ite ?_ ?_ | refine LeO.bind ?_ (fun _ => ?_)) | exact ih0 _ _ _ _ _ | exact ih1 _ _ _ _ _ _ | exact ih2 _ _ _ _ _ _ _ _ _ | exact ih3 _ _ _ _ _ _ _ _ _ _ _ _ _ _ _ _ | exact ih4 _ _ _ _ _ _ _ _ _ _ _ _ _ _ _ _ _ _ _ | exact ih5 _ _ _ _ _ | exact impl_TurnsOk.mono _ _ _ _ | exact impl_turning.mono _ _ _ _ | exact LeO.none _ | refine LeO.ite ?_ ?_ | refine LeO.bind ?_ (fun _ => ?_)
def impl_TurnAll.T18 : Bool × List (List Nat × List Nat) := (true, [([], []), ([], []), ([], []), ([1, 2], [1, 2]), ([3], [3]), ([], []), ([4, 5], [4, 5]), ([], []), ([7], [7]), ([6, 8], [6, 8]), ([0, 9], [0, 9]), ([10, 0, 1, 2, 3, 4, 5, 6, 7, 8, 9, 10], [0, 10])])
def impl_TurnAll.B18 : List Nat := [0, 0, 0, 6, 14, 0, 62, 0, 128, 510, 1023, 2047]
theorem impl_TurnAll.tab18 : rtab .any (opsOf Try.f8 18) = impl_TurnAll.T18 := by kernel_rfl
theorem impl_TurnAll.bits18 : waitsOk impl_TurnAll.T18.2 impl_TurnAll.B18 = true := by kernel_rfl
def impl_TurnAll.T29 : Bool × List (List Nat × List Nat) := (true, [([], []), ([], []), ([1], [1]), ([], []), ([], []), ([4], [4]), ([3, 5], [3, 5]), ([6], [6]), ([], []), ([], []), ([8, 9], [8, 9]), ([10], [10]), ([7, 11], [7, 11]), ([0, 2, 0, 1, 2, 3, 4, 5, 6, 7, 8, 9, 10, 11, 12], [0, 2]), ([13, 12, 0, 1, 2, 3, 4, 5, 6, 7, 8, 9, 10, 11, 12], [12, 13])])
def impl_TurnAll.B29 : List Nat := [0, 0, 2, 0, 0, 16, 56, 120, 0, 0, 768, 1792, 4088, 8191, 16383]
theorem impl_TurnAll.tab29 : rtab .any (opsOf Try.f8 29) = impl_TurnAll.T29 := by kernel_rfl
theorem impl_TurnAll.bits29 : waitsOk impl_TurnAll.T29.2 impl_TurnAll.B29 = true := by kernel_rfl
set_option maxHeartbeats 200000000 in
set_option maxRecDepth 100000 in
theorem impl_TurnAll.calls (k : Nat) (a0_0 : Int) (A0_1 : Option Addr) (c0_1 : Nat) (l0_1 : List (S36)) (A1 : Option Addr) (c1 : Nat) (l1 : List (S60)) (a2 : Int) (r : List Int) (w : World) (hr0_1 : Kd.C k36 w A0_1 l0_1.length l0_1) (hc0_1 : l0_1.length ≤ c0_1) (hr1 : Kd.C k60 w A1 l1.length l1) (hc1 : l1.length ≤ c1) (h : impl_TurnAll.f k a0_0 l0_1 l1 a2 = some r) :
    Calls Try.prog 8 #[.agg #[.int .i64 a0_0, .slice A0_1 l0_1.length c0_1], .slice A1 l1.length c1, .int .i64 a2] w fun e w' => ∃ v0_ : Value, e = .returned (v0_) ∧ Kd.R (Kd.int .i64) 3 w' w.heap.size (fun _ => True) v0_ r ∧ Below w.heap.size w w' := by
  have hu25 := Try.underlying25
  have hu36 := Try.underlying36
  have HR0_1 := Aside0.mk hr0_1
  have HC0_1 := Aside0.mk hc0_1
  clear hr0_1 hc0_1
  have HR1 := Aside0.mk hr1
  have HC1 := Aside0.mk hc1
  clear hr1 hc1
  have HB := Aside0.mk (Below.refl w.heap.size w)
  have H : ((impl_TurnsOk.f k a0_0 l0_1 l1).bind fun t284 => (if t284 = true then ((impl_Net_has.f a0_0 l0_1 (([a2] : List Int))).bind fun t288 => (impl_TurnAll.j0 k l1 a2 (!t288) a0_0 l0_1)) else (impl_TurnAll.j0 k l1 a2 true a0_0 l0_1))) = some r := h
  clear h
  have HC4 := Aside0.mk H
  clear H
  go_enter Try.func8, Try.ntmps8
  go_upto_region 1 with (first | ((with_reducible refine gate_dst (N := 3) rfl ?_); (try (refine gate_guard (by rfl) ?_; dsimp only)); refine bx_ 3 #[.int .i64 a0_0, .slice A0_1 l0_1.length c0_1] 25 ?_; intro gb283 hg w5 hbox hb; have BK283 := Aside0.mk (hbox); have GW283 := Aside0.mk (zs_ hg (ne_ HB.out)); have GE283 := Aside0.mk (zs_ hg (ne_ HB.out)); replace HB := kB_ HB hb; clear hb hbox hg))
  (try simp only [Act.put, List.setIfInBounds_toArray, List.set_cons_zero, List.set_cons_succ])
  go_cut [28] (fun v28 wc => ∃ (kq : Nat) (x28_3 : Bool), v28 = .bool x28_3 ∧ Aside0 (impl_TurnAll.j0 kq l1 a2 x28_3 a0_0 l0_1 = some r) ∧ Aside0 (kq ≤ k) ∧ Aside0 (wc.heap[gb283]? = some (.cells #[.int .i64 a0_0, (.slice A0_1 l0_1.length c0_1)] 25 (0, 0))) ∧ Aside0 (Below w.heap.size w wc))
  case first =>
   have H := HC4.out
   clear HC4
   replace H := Option.bind_eq_some_iff.mp H
   obtain ⟨t284, A60, H⟩ := H
   try dsimp only at H
   have A6 := Aside0.mk A60
   clear A60
   by_cases c7 : t284 = true
   rotate_left
   ·replace c7 := Bool.eq_false_iff.mpr c7
    subst c7
    have H1 : (impl_TurnAll.j0 k l1 a2 true a0_0 l0_1) = some r := by rw [if_neg (show ¬ (false = true) by decide)] at H; exact H
    clear H
    have H := H1
    clear H1
    have H' := Aside0.mk H
    clear H
    obtain ⟨hcz16_0, hcz16_1, hfz16_0, hfz16_1⟩ := cz2_ BK283.out
    go_wp2_with (first | ((with_reducible refine gate_callee (f := 14) rfl ?_); refine gl_ (some 20) Try.func14 #[.agg #[.int .i64 a0_0, .slice A0_1 l0_1.length c0_1], .slice A1 l1.length c1] ?_; (with_reducible refine (impl_TurnsOk.calls k a0_0 _ _ l0_1 _ _ l1 false _ ?side1 ?side2 ?side3 ?side4 A6.out).mono ?_); (case side1 => exact nc_ (Kd.C_below HR0_1.out HB.out)); (case side2 => exact HC0_1.out); (case side3 => exact nc_ (Kd.C_below HR1.out HB.out)); (case side4 => exact HC1.out); rintro e w17 ⟨rfl, hb⟩; refine ⟨_, rfl, ?_⟩; replace BK283 := kb_ BK283 hb; replace HB := kB_ HB hb; (try clear hb); (try clear hb2); (try clear hk); (try clear hi)))
    go_meet
    case rel => exact ⟨_, (true), ns_, H', ⟨by first | omega | exact Nat.le_refl _⟩, ⟨nb_ BK283.out⟩, ⟨ne_ HB.out⟩⟩
   subst c7
   rw [if_pos rfl] at H
   obtain ⟨y285, hy285⟩ : ∃ y_ : List Int, y_ = (([a2] : List Int)) := ⟨_, rfl⟩
   replace H : ((impl_Net_has.f a0_0 l0_1 y285).bind fun t288 => (impl_TurnAll.j0 k l1 a2 (!t288) a0_0 l0_1)) = some r := by first | (rw [hy285]; with_reducible exact H) | (have H2_ := (Option.bind_some _ _).symm.trans H; rw [hy285]; with_reducible exact H2_) | (have H2_ := (Option.bind_some _ _).symm.trans H; with_reducible exact H2_) | with_reducible exact H | (rw [hy285]; exact H) | exact H
   have Ny285 := Aside0.mk hy285
   clear hy285
   replace H := Option.bind_eq_some_iff.mp H
   obtain ⟨t288, A80, H⟩ := H
   replace H : (impl_TurnAll.j0 k l1 a2 (!t288) a0_0 l0_1) = some r := H
   have A8 := Aside0.mk A80
   clear A80
   have H' := Aside0.mk H
   clear H
   obtain ⟨hcz9_0, hcz9_1, hfz9_0, hfz9_1⟩ := cz2_ BK283.out
   go_wp2_with (first | ((with_reducible refine gate_callee (f := 14) rfl ?_); refine gl_ (some 20) Try.func14 #[.agg #[.int .i64 a0_0, .slice A0_1 l0_1.length c0_1], .slice A1 l1.length c1] ?_; (with_reducible refine (impl_TurnsOk.calls k a0_0 _ _ l0_1 _ _ l1 true _ ?side1 ?side2 ?side3 ?side4 A6.out).mono ?_); (case side1 => exact nc_ (Kd.C_below HR0_1.out HB.out)); (case side2 => exact HC0_1.out); (case side3 => exact nc_ (Kd.C_below HR1.out HB.out)); (case side4 => exact HC1.out); rintro e w10 ⟨rfl, hb⟩; refine ⟨_, rfl, ?_⟩; replace BK283 := kb_ BK283 hb; replace HB := kB_ HB hb; (try clear hb); (try clear hb2); (try clear hk); (try clear hi); obtain ⟨hcz11_0, hcz11_1, hfz11_0, hfz11_1⟩ := cz2_ BK283.out) | ((with_reducible refine gate_dst (N := 25) rfl ?_); (try (refine gate_guard (by rfl) ?_; dsimp only)); refine li_ 25 3 [a2] [.int .i64 a2] ?_; intro v286 w12 ho13 hb hg_ hnew_; clear hg_ hnew_; (first | rw [← Ny285.out] at ho13 | (simp only [Int.reduceToNat] at ho13; rw [← Ny285.out] at ho13)); have HO287 := Aside0.mk (Kd.R_lower ho13 (below_size (ne_ HB.out))); replace BK283 := kb_ BK283 hb; replace HB := kB_ HB hb; clear hb ho13; obtain ⟨Ao14, co14, eo14⟩ := Kd.R_slice HO287.out; subst eo14) | (go_at_call 22; (with_reducible refine (impl_Net_has.calls a0_0 _ _ l0_1 _ _ y285 t288 _ ?side1 ?side2 ?side3 ?side4 A8.out).mono ?_); (case side1 => exact nc_ (Kd.C_below HR0_1.out HB.out)); (case side2 => exact HC0_1.out); (case side3 => exact nc_ (Kd.R_reads' HO287.out).2.2); (case side4 => exact (Kd.R_reads' HO287.out).2.1); rintro e w15 ⟨rfl, hb⟩; replace HO287 := kR_ HO287 hb; replace BK283 := kb_ BK283 hb; replace HB := kB_ HB hb; (try clear hb); (try clear hb2); (try clear hk); (try clear hi)))
   go_meet
   case rel => exact ⟨_, (!t288), ns_, H', ⟨by first | omega | exact Nat.le_refl _⟩, ⟨nb_ BK283.out⟩, ⟨ne_ HB.out⟩⟩
  case rest =>
   clear HC4
   try clear c1
   obtain ⟨kq, x28_3, rfl, HA, HJ3, BK283, HB⟩ := hcut
   cases kq with
   | zero => exact absurd HA.out (by simp [impl_TurnAll.j0])
   | succ kj3 =>
    have H := HA.out
    clear HA
    simp only [impl_TurnAll.j0] at H
    by_cases c18 : x28_3 = true
    ·subst c18
     have H1 : (some ([] : List Int)) = some r := by rw [if_pos rfl] at H; exact H
     clear H
     have H := H1
     clear H1
     obtain rfl := Option.some.inj H
     go_wp2
     go_ret
     exact ⟨_, nw_, by first | exact Kd.R_nil _ _ _ _ _ | exact Kd.N_nil _ _ _ _ _ | exact Kd.V_nil _ _ _ _ _ | exact Kd.Q_nil _ _ _ _ _ | exact Kd.S_nil _ _ _ _ _, ne_ HB.out⟩
    replace c18 := Bool.eq_false_iff.mpr c18
    subst c18
    have H1 : ((slices_Repeat_int_int.f (([99999] : List Int)) (l0_1.length : Int)).bind fun t292 => (impl_TurnAll.l0 kj3 l1 a2 t292 true a0_0 l0_1)) = some r := by rw [if_neg (show ¬ (false = true) by decide)] at H; exact H
    clear H
    have H := H1
    clear H1
    obtain ⟨y289, hy289⟩ : ∃ y_ : List Int, y_ = (([99999] : List Int)) := ⟨_, rfl⟩
    replace H : ((slices_Repeat_int_int.f y289 (l0_1.length : Int)).bind fun t292 => (impl_TurnAll.l0 kj3 l1 a2 t292 true a0_0 l0_1)) = some r := by first | (rw [hy289]; with_reducible exact H) | (have H2_ := (Option.bind_some _ _).symm.trans H; rw [hy289]; with_reducible exact H2_) | (have H2_ := (Option.bind_some _ _).symm.trans H; with_reducible exact H2_) | with_reducible exact H | (rw [hy289]; exact H) | exact H
    have Ny289 := Aside0.mk hy289
    clear hy289
    replace H := Option.bind_eq_some_iff.mp H
    obtain ⟨t292, A190, H⟩ := H
    replace H : (impl_TurnAll.l0 kj3 l1 a2 t292 true a0_0 l0_1) = some r := H
    have A19 := Aside0.mk A190
    clear A190
    have H' := Aside0.mk H
    clear H
    go_wp2_with (first | ((with_reducible refine gate_dst (N := 29) rfl ?_); (try (refine gate_guard (by rfl) ?_; dsimp only)); refine li_ 29 3 [99999] [.int .i64 99999] ?_; intro v290 w20 ho21 hb hg_ hnew_; clear hg_ hnew_; (first | rw [← Ny289.out] at ho21 | (simp only [Int.reduceToNat] at ho21; rw [← Ny289.out] at ho21)); have HO291 := Aside0.mk (Kd.R_lower ho21 (below_size (ne_ HB.out))); replace BK283 := kb_ BK283 hb; replace HB := kB_ HB hb; clear hb ho21; obtain ⟨hcz22_0, hcz22_1, hfz22_0, hfz22_1⟩ := cz2_ BK283.out; obtain ⟨Ao23, co23, eo23⟩ := Kd.R_slice HO291.out; subst eo23) | ((with_reducible refine gate_callee (f := 23) rfl ?_); refine gl_ (some 33) Try.func23 #[.slice Ao23 y289.length co23, .int .i64 (l0_1.length : Int)] ?_; (with_reducible refine (slices_Repeat_int_int.calls _ _ y289 (l0_1.length : Int) t292 _ ?side1 ?side2 A19.out).mono ?_); (case side1 => exact nc_ (Kd.R_reads' HO291.out).2.2); (case side2 => exact (Kd.R_reads' HO291.out).2.1); rintro e w24 ⟨v293, rfl, ho0, hb⟩; refine ⟨_, rfl, ?_⟩; have HO294 := Aside0.mk (Kd.R_lower (Kd.R_new' ho0 (Kd.R_lt (nr_ HO291.out))) (below_size (ne_ HB.out))); replace HO291 := Aside0.mk (Kd.R_elder' (nr_ HO291.out) (Kd.R_base ho0) hb); replace BK283 := kb_ BK283 hb; replace HB := kB_ HB hb; (try clear hb); (try clear hb2); (try clear hk); (try clear hi); (try clear ho0)))
    go_loopg [8] kj3 (fun kq v8 w' => ∃ (x7_2 : List Int) (x8_2 : Bool), v8 = .bool x8_2 ∧ Aside0 (impl_TurnAll.l0 kq l1 a2 x7_2 x8_2 a0_0 l0_1 = some r) ∧ Aside0 (kq ≤ kj3) ∧ Aside0 (Kd.R (Kd.int .i64) 3 w' w.heap.size (fun _ => True) v293 x7_2) ∧ Aside0 (w'.heap[gb283]? = some (.cells #[.int .i64 a0_0, (.slice A0_1 l0_1.length c0_1)] 25 (0, 0))) ∧ Aside0 (Below w.heap.size w w'))
    case atStart => exact ⟨(t292), (true), ns_, H', ⟨Nat.le_refl _⟩, ⟨by (with_reducible repeat (first | apply Kd.R_alloc | apply Kd.R_drewN | apply Kd.R_drew)); exact Kd.R_mono HO294.out (fun _ hk => trivial)⟩, ⟨nb_ BK283.out⟩, ⟨ne_ HB.out⟩⟩
    case round =>
     clear H'
     try clear c1
     try clear c18
     try clear hcz22_0
     try clear hcz22_1
     try clear hfz22_0
     try clear hfz22_1
     obtain ⟨x7_2, x8_2, rfl, HA, HK2, HO_7, BK283, HB⟩ := hrel
     cases gk with
     | zero => exact absurd HA.out (by simp [impl_TurnAll.l0])
     | succ k2 =>
      have H := HA.out
      clear HA
      simp only [impl_TurnAll.l0] at H
      by_cases c25 : x8_2 = true
      rotate_left
      ·replace c25 := Bool.eq_false_iff.mpr c25
       subst c25
       have H1 : ((slices_Repeat_int_int.f (([99999] : List Int)) a0_0).bind fun t307 => (if 0 ≤ a2 then (if a2 < (t307.length : Int) then (impl_TurnAll.l3 k2 x7_2 (t307.set (a2 : Int).toNat 0) l0_1 (l0_1.length : Int) 0) else (none)) else (none))) = some r := by rw [if_neg (show ¬ (false = true) by decide)] at H; exact H
       clear H
       have H := H1
       clear H1
       obtain ⟨y304, hy304⟩ : ∃ y_ : List Int, y_ = (([99999] : List Int)) := ⟨_, rfl⟩
       replace H : ((slices_Repeat_int_int.f y304 a0_0).bind fun t307 => (if 0 ≤ a2 then (if a2 < (t307.length : Int) then (impl_TurnAll.l3 k2 x7_2 (t307.set (a2 : Int).toNat 0) l0_1 (l0_1.length : Int) 0) else (none)) else (none))) = some r := by first | (rw [hy304]; with_reducible exact H) | (have H2_ := (Option.bind_some _ _).symm.trans H; rw [hy304]; with_reducible exact H2_) | (have H2_ := (Option.bind_some _ _).symm.trans H; with_reducible exact H2_) | with_reducible exact H | (rw [hy304]; exact H) | exact H
       have Ny304 := Aside0.mk hy304
       clear hy304
       replace H := Option.bind_eq_some_iff.mp H
       obtain ⟨t307, A920, H⟩ := H
       try dsimp only at H
       have A92 := Aside0.mk A920
       clear A920
       by_cases c93 : 0 ≤ a2
       rotate_left
       ·rw [if_neg c93] at H
        exact absurd H (by simp)

       rw [if_pos c93] at H
       have c93b0 : decide (0 ≤ a2) = true := decide_eq_true c93
       clear c93
       by_cases c94 : a2 < (t307.length : Int)
       rotate_left
       ·rw [if_neg c94] at H
        exact absurd H (by simp)
       rw [if_pos c94] at H
       have c94b0 : decide (a2 < (t307.length : Int)) = true := decide_eq_true c94
       clear c94
       obtain ⟨y310, hy310⟩ : ∃ y_ : List Int, y_ = (t307.set (a2 : Int).toNat 0) := ⟨_, rfl⟩
       replace H : (impl_TurnAll.l3 k2 x7_2 y310 l0_1 (l0_1.length : Int) 0) = some r := by first | (rw [hy310]; with_reducible exact H) | (have H2_ := (Option.bind_some _ _).symm.trans H; rw [hy310]; with_reducible exact H2_) | (have H2_ := (Option.bind_some _ _).symm.trans H; with_reducible exact H2_) | with_reducible exact H | (rw [hy310]; exact H) | exact H
       have Ny310 := Aside0.mk hy310
       clear hy310
       have H' := Aside0.mk H
       clear H
       go_wp2_with (first | ((with_reducible refine gate_dst (N := 100) rfl ?_); (try (refine gate_guard (by rfl) ?_; dsimp only)); refine li_ 100 3 [99999] [.int .i64 99999] ?_; intro v305 w96 ho97 hb hg_ hnew_; clear hg_ hnew_; (first | rw [← Ny304.out] at ho97 | (simp only [Int.reduceToNat] at ho97; rw [← Ny304.out] at ho97)); have HO306 := Aside0.mk (Kd.R_lower (Kd.R_new' ho97 (Kd.R_lt (nr_ HO_7.out))) (below_size (ne_ HB.out))); replace HO_7 := Aside0.mk (Kd.R_elder' (nr_ HO_7.out) (Kd.R_base ho97) hb); replace BK283 := kb_ BK283 hb; replace HB := kB_ HB hb; clear hb ho97; obtain ⟨hcz98_0, hcz98_1, hfz98_0, hfz98_1⟩ := cz2_ BK283.out; obtain ⟨Ao99, co99, eo99⟩ := Kd.R_slice HO306.out; subst eo99) | ((with_reducible refine gate_callee (f := 23) rfl ?_); refine gl_ (some 103) Try.func23 #[.slice Ao99 y304.length co99, .int .i64 a0_0] ?_; (with_reducible refine (slices_Repeat_int_int.calls _ _ y304 a0_0 t307 _ ?side1 ?side2 A92.out).mono ?_); (case side1 => exact nc_ (Kd.R_reads' HO306.out).2.2); (case side2 => exact (Kd.R_reads' HO306.out).2.1); rintro e w100 ⟨v308, rfl, ho0, hb⟩; refine ⟨_, rfl, ?_⟩; have HO309 := Aside0.mk (Kd.R_lower (Kd.R_new' (Kd.R_new' ho0 (Kd.R_lt (nr_ HO_7.out))) (Kd.R_lt (nr_ HO306.out))) (below_size (ne_ HB.out))); replace HO_7 := Aside0.mk (Kd.R_elder' (nr_ HO_7.out) (Kd.R_base ho0) hb); replace HO306 := Aside0.mk (Kd.R_elder' (nr_ HO306.out) (Kd.R_base ho0) hb); replace BK283 := kb_ BK283 hb; replace HB := kB_ HB hb; (try clear hb); (try clear hb2); (try clear hk); (try clear hi); (try clear ho0); have p95 : 0 ≤ (a2 : Int) := of_decide_eq_true nx_; have q95 : (a2 : Int) < ((t307.length : Int) : Int) := of_decide_eq_true nx_; obtain ⟨go95, co95, eo95, gb95, gl95, cl95, HG95⟩ := Kd.R_form HO309.out (by omega); (first | cases eo95 | (injection eo95 with ea_ en_ ec_; (first | subst ea_ | (injection ea_ with ea_; subst ea_)); subst ec_; clear en_)); have GB95 := Aside0.mk gb95; have GG95 := Aside0.mk HG95; clear gb95 gl95 HG95; obtain ⟨hx95_0, hf95_0⟩ := Kd.R_celln 0 HO309.out (a2 : Int) p95 q95; replace p95 := eq_true p95; replace q95 := eq_true q95; have n_ := Aside0.mk (Kd.R_mono (ok' := (fun k_ => some k_ ≠ (v293 : Value).ownBlock ∧ some k_ ≠ (.slice Ao99 y304.length co99 : Value).ownBlock)) HO309.out (fun k_ hk => ⟨hk.1.2, hk.2⟩)); clear HO309; have HO309 := n_; clear n_; obtain ⟨hy101_, hz101_⟩ := Kd.R_celln 0 HO309.out (a2 : Int) (of_decide_eq_true nx_) (of_decide_eq_true nx_); have HP101 := Kd.R_putg HO309.out (a2 : Int) 0) | ((with_reducible refine gate_store (t := 3) (p := 106) rfl ?_); refine store_event (t := 3) (p := 106) (v := ?vo_w102) (w1 := (w100.setCell ⟨go95, (a2 : Int).toNat, none⟩ (.int .i64 0))) ?hg ?ho ?hn ?hr ?_; (case ho => rfl); (case hg => rfl); (case hn => rfl); (case hr => first | (go_simp; done) | (go_simp; rfl)); intro w102 hw; have hg : w100.grownBy w102 (some go95) := (by rw [hw]; exact HP101.2); have hp_ : Kd.R (Kd.int .i64) 3 w102 w.heap.size (fun k_ => some k_ ≠ (v293 : Value).ownBlock ∧ some k_ ≠ (.slice Ao99 y304.length co99 : Value).ownBlock) (.slice (some ⟨go95, 0, none⟩) t307.length co95) y310 := (by rw [hw, Ny310.out]; exact HP101.1); clear HP101; replace HO_7 := Aside0.mk (Kd.R_after (v := (.slice (some ⟨go95, 0, none⟩) t307.length co95)) (v1 := (.slice (some ⟨go95, 0, none⟩) t307.length co95)) (ok := (fun k_ => some k_ ≠ (.slice Ao99 y304.length co99 : Value).ownBlock)) (by (with_reducible repeat (first | apply Kd.R_alloc | apply Kd.R_drewN | apply Kd.R_drew)); exact Kd.R_mono HO_7.out (fun _ hk => by first | exact ⟨hk.1.2, hk.2⟩ | trivial | simp_all)) hg (.inl rfl)); replace BK283 := Aside0.mk (blk_grown (g := gb283) (o := .cells #[.int .i64 a0_0, .slice A0_1 l0_1.length c0_1] 25 (0, 0)) (nb_ BK283.out) hg (Kd.R_ne HO309.out BK283.out (by decide))); replace HO306 := Aside0.mk (Kd.R_after (v := (.slice (some ⟨go95, 0, none⟩) t307.length co95)) (v1 := (.slice (some ⟨go95, 0, none⟩) t307.length co95)) (ok := (fun k_ => some k_ ≠ (v293 : Value).ownBlock)) (by (with_reducible repeat (first | apply Kd.R_alloc | apply Kd.R_drewN | apply Kd.R_drew)); exact Kd.R_mono HO306.out (fun _ hk => by first | exact ⟨hk.1.2, hk.2⟩ | trivial | simp_all)) hg (.inl rfl)); replace HO309 := Aside0.mk (hp_); replace HB := Aside0.mk ((by rw [hw]; exact below_set (HB.out) GB95.out : Below w.heap.size w w102)); clear hg hw hp_; obtain ⟨hcz103_0, hcz103_1, hfz103_0, hfz103_1⟩ := cz2_ BK283.out))
       go_loopg [110] k2 (fun kq v110 w' => ∃ (x15_3 : List Int) (x110_3 : Int), v110 = .int .i64 x110_3 ∧ Aside0 (impl_TurnAll.l3 kq x7_2 x15_3 l0_1 (l0_1.length : Int) x110_3 = some r) ∧ Aside0 (kq ≤ k2) ∧ Aside0 (Kd.R (Kd.int .i64) 3 w' w.heap.size (fun k_ => some k_ ≠ ((.slice (some ⟨go95, 0, none⟩) t307.length co95) : Value).ownBlock) v293 x7_2) ∧ Aside0 (Kd.R (Kd.int .i64) 3 w' w.heap.size (fun k_ => some k_ ≠ (v293 : Value).ownBlock) (.slice (some ⟨go95, 0, none⟩) t307.length co95) x15_3) ∧ Aside0 (w'.heap[gb283]? = some (.cells #[.int .i64 a0_0, (.slice A0_1 l0_1.length c0_1)] 25 (0, 0))) ∧ Aside0 (Below w.heap.size w w'))
       case atStart => exact ⟨(y310), (0), ns_, H', ⟨Nat.le_refl _⟩, ⟨by (with_reducible repeat (first | apply Kd.R_alloc | apply Kd.R_drewN | apply Kd.R_drew)); exact Kd.R_mono HO_7.out (fun _ hk => by first | exact hk.2 | trivial | simp_all)⟩, ⟨by (with_reducible repeat (first | apply Kd.R_alloc | apply Kd.R_drewN | apply Kd.R_drew)); exact Kd.R_mono HO309.out (fun _ hk => hk.1)⟩, ⟨nb_ BK283.out⟩, ⟨ne_ HB.out⟩⟩
       case round =>
        clear H'
        try clear c1
        try clear c18
        try clear c25
        try clear c93
        try clear c93b0
        try clear c94
        try clear c94b0
        try clear p95
        try clear q95
        try clear hcz103_0
        try clear hcz103_1
        try clear hcz22_0
        try clear hcz22_1
        try clear hcz98_0
        try clear hcz98_1
        try clear hfz103_0
        try clear hfz103_1
        try clear hfz22_0
        try clear hfz22_1
        try clear hfz98_0
        try clear hfz98_1
        try clear hx95_0
        try clear p95
        try clear q95
        obtain ⟨x15_3, x110_3, rfl, HA, HK3, HO_7, HO_15, BK283, HB⟩ := hrel
        have hl15_3 := (Kd.R_reads' HO_15.out).1
        rw [hl15_3] at HO_15
        (try simp only [hl15_3])
        (try simp only [hl15_3] at BK283)
        (try simp only [hl15_3] at HO_7)
        cases gk with
        | zero => exact absurd HA.out (by simp [impl_TurnAll.l3])
        | succ k3 =>
         have H := HA.out
         clear HA
         simp only [impl_TurnAll.l3] at H
         by_cases c104 : x110_3 < (l0_1.length : Int)
         rotate_left
         ·rw [if_neg c104] at H
          have c104b0 : decide (x110_3 < (l0_1.length : Int)) = false := decide_eq_false c104
          clear c104
          replace H := Option.bind_eq_some_iff.mp H
          obtain ⟨t316, A1190, H⟩ := H
          replace H : (some t316) = some r := H
          have A119 := Aside0.mk A1190
          clear A1190
          obtain rfl := Option.some.inj H
          go_wp2_with (first | ((with_reducible refine gate_callee (f := 24) rfl ?_); refine gl_ (some 131) Try.func24 #[.slice (some ⟨go95, 0, none⟩) x15_3.length co95] ?_; (with_reducible refine (slices_Clip_int_int.calls (fun k_ => some k_ = (.slice (some ⟨go95, 0, none⟩) x15_3.length co95 : Value).ownBlock) (.slice (some ⟨go95, 0, none⟩) x15_3.length co95) x15_3 t316 w _ ?side1 ?side2 A119.out).mono ?_); (case side1 => exact (ne_ HB.out)); (case side2 => exact Kd.R_tight rfl HO_15.out); rintro e w120 ⟨v317, rfl, ho0, hb, hkp⟩; refine ⟨_, rfl, ?_⟩; have HO318 := Aside0.mk (Kd.R_mono (ok' := fun k_ => some k_ ≠ (v293 : Value).ownBlock) ho0 (fun k_ hk_ => Or.elim hk_ (fun hs_ => fun e_ => (((HO_7.out).1 k_ e_.symm)) hs_) (fun hn_ => (Kd.fresh' (Kd.R_lt (nr_ HO_7.out)) k_ hn_)))); replace HO_7 := Aside0.mk (Kd.R_mono (ok' := fun k_ => some k_ ≠ (v317 : Value).ownBlock) (Kd.R_keptB (HO_7.out) hkp (fun k_ hk_ hs_ => (hk_) hs_)) (fun k_ hk_ => fun e_ => Or.elim (ho0.1 k_ e_.symm) (fun hs_ => hk_.2.1 hs_) (fun hn_ => Nat.not_le.2 hk_.2.2 hn_))); replace BK283 := Aside0.mk (blk_kept (g := gb283) (o := .cells #[.int .i64 a0_0, .slice A0_1 l0_1.length c0_1] 25 (0, 0)) (nb_ BK283.out) hkp (fun hs_ => (fun e_ => (Kd.R_ne HO_15.out BK283.out (by decide)) e_) hs_)); replace HB := Aside0.mk (hb); clear HO_15; (try clear hb); (try clear hkp); (try clear ho0)))
          go_ret
          exact ⟨_, nw_, by (with_reducible repeat (first | apply Kd.R_alloc | apply Kd.R_drewN | apply Kd.R_drew)); exact Kd.R_mono HO318.out (fun _ hk => trivial), ne_ HB.out⟩
         rw [if_pos c104] at H
         have c104b0 : decide (x110_3 < (l0_1.length : Int)) = true := decide_eq_true c104
         clear c104
         by_cases c105 : 0 ≤ x110_3
         rotate_left
         ·rw [if_neg c105] at H
          exact absurd H (by simp)
         rw [if_pos c105] at H
         have c105b0 : decide (0 ≤ x110_3) = true := decide_eq_true c105
         clear c105
         by_cases c106 : x110_3 < (l0_1.length : Int)
         rotate_left
         ·rw [if_neg c106] at H
          exact absurd H (by simp)
         rw [if_pos c106] at H
         have c106b0 : decide (x110_3 < (l0_1.length : Int)) = true := decide_eq_true c106
         clear c106
         by_cases c107 : 0 ≤ ((rd_T36 l0_1 x110_3).f1)
         rotate_left
         ·rw [if_neg c107] at H
          exact absurd H (by simp)
         rw [if_pos c107] at H
         have c107b0 : decide (0 ≤ ((rd_T36 l0_1 x110_3).f1)) = true := decide_eq_true c107
         clear c107
         by_cases c108 : ((rd_T36 l0_1 x110_3).f1) < (x15_3.length : Int)
         rotate_left
         ·rw [if_neg c108] at H
          exact absurd H (by simp)
         rw [if_pos c108] at H
         have c108b0 : decide (((rd_T36 l0_1 x110_3).f1) < (x15_3.length : Int)) = true := decide_eq_true c108
         clear c108
         by_cases c109 : x110_3 < (x7_2.length : Int)
         rotate_left
         ·rw [if_neg c109] at H
          exact absurd H (by simp)
         rw [if_pos c109] at H
         have c109b0 : decide (x110_3 < (x7_2.length : Int)) = true := decide_eq_true c109
         clear c109
         obtain ⟨ji110, hji110⟩ : ∃ j_ : Int, (mn (rd x15_3 ((rd_T36 l0_1 x110_3).f1)) (rd x7_2 x110_3)) = j_ := ⟨_, rfl⟩
         replace H : (impl_TurnAll.l3 k3 x7_2 (x15_3.set (((rd_T36 l0_1 x110_3).f1) : Int).toNat (ji110)) l0_1 (l0_1.length : Int) (wrap64 (x110_3 + 1))) = some r := by first | (rw [hji110] at H; exact H) | (simp only [hji110] at H ⊢; exact H)
         have hji110_ : (if (rd x7_2 x110_3) < (rd x15_3 ((rd_T36 l0_1 x110_3).f1)) then (rd x7_2 x110_3) else (rd x15_3 ((rd_T36 l0_1 x110_3).f1))) = ji110 := hji110
         obtain ⟨y315, hy315⟩ : ∃ y_ : List Int, y_ = (x15_3.set (((rd_T36 l0_1 x110_3).f1) : Int).toNat (ji110)) := ⟨_, rfl⟩
         replace H : (impl_TurnAll.l3 k3 x7_2 y315 l0_1 (l0_1.length : Int) (wrap64 (x110_3 + 1))) = some r := by first | (rw [hy315]; with_reducible exact H) | (have H2_ := (Option.bind_some _ _).symm.trans H; rw [hy315]; with_reducible exact H2_) | (have H2_ := (Option.bind_some _ _).symm.trans H; with_reducible exact H2_) | with_reducible exact H | (rw [hy315]; exact H) | exact H
         have Ny315 := Aside0.mk hy315
         clear hy315
         have H' := Aside0.mk H
         clear H
         have p311 : 0 ≤ (x110_3 : Int) := of_decide_eq_true nx_
         have q311 : x110_3 < (l0_1.length : Int) := of_decide_eq_true nx_
         obtain ⟨ad311, e311, hx311_0, hx311_1, hx311_2, hx311_3, hx311_4⟩ := at_T36 HR0_1.out x110_3 p311 q311
         cases e311
         replace hx311_0 := hb_ HB.out hx311_0
         replace hx311_1 := hb_ HB.out hx311_1
         replace hx311_2 := hb_ HB.out hx311_2
         replace hx311_3 := hb_ HB.out hx311_3
         replace hx311_4 := hb_ HB.out hx311_4
         replace p311 := eq_true p311
         replace q311 := eq_true q311
         try go_wp2_with (first | ((with_reducible refine gate_dst (N := 17) rfl ?_); (try (refine gate_guard (by rfl) ?_; dsimp only)); refine bx_ 17 #[.int .i64 0, .int .i64 0, .int .i64 0, .int .i64 0, .int .i64 0] 36 ?_; intro gb312 hg w112 hbox hb; have BK312 := Aside0.mk (hbox); have GW312 := Aside0.mk (zs_ hg (ne_ HB.out)); have GE312 := Aside0.mk (zs_ hg (ne_ HB.out)); have NB283_312 := Aside0.mk (nl_ BK283.out hg); have NB312_283 := Aside0.mk (nm_ BK283.out hg); replace HO_7 := kR_ HO_7 hb; replace HO_15 := kR_ HO_15 hb; replace BK283 := kb_ BK283 hb; replace HB := kB_ HB hb; clear hb hbox hg; have hnb113 := NB312_283.out; have hnc113 := NB283_312.out; obtain ⟨hcz114_0, hcz114_1, hcz114_2, hcz114_3, hcz114_4, hfz114_0, hfz114_1, hfz114_2, hfz114_3, hfz114_4⟩ := cz5_ BK312.out))
         have n0_ : Aside0 (Kd.R (Kd.int .i64) 3 (((((w112.setCell ⟨gb312, 0, none⟩ (.int .i64 ((rd_T36 l0_1 x110_3).f0))).setCell ⟨gb312, 1, none⟩ (.int .i64 ((rd_T36 l0_1 x110_3).f1))).setCell ⟨gb312, 2, none⟩ (.int .i64 ((rd_T36 l0_1 x110_3).f2))).setCell ⟨gb312, 3, none⟩ (.int .i64 ((rd_T36 l0_1 x110_3).f3))).setCell ⟨gb312, 4, none⟩ (.int .i64 ((rd_T36 l0_1 x110_3).f4))) w.heap.size (fun k_ => some k_ ≠ (.slice (some ⟨go95, 0, none⟩) x15_3.length co95 : Value).ownBlock) v293 x7_2) := ⟨by (with_reducible repeat (first | apply Kd.R_alloc | apply Kd.R_drewN | apply Kd.R_drew)); exact Kd.R_mono (rf5_ (Kd.R_types HO_7.out BK312.out (by decide))) (fun _ hk => hk.1)⟩
         have n1_ : Aside0 (Kd.R (Kd.int .i64) 3 (((((w112.setCell ⟨gb312, 0, none⟩ (.int .i64 ((rd_T36 l0_1 x110_3).f0))).setCell ⟨gb312, 1, none⟩ (.int .i64 ((rd_T36 l0_1 x110_3).f1))).setCell ⟨gb312, 2, none⟩ (.int .i64 ((rd_T36 l0_1 x110_3).f2))).setCell ⟨gb312, 3, none⟩ (.int .i64 ((rd_T36 l0_1 x110_3).f3))).setCell ⟨gb312, 4, none⟩ (.int .i64 ((rd_T36 l0_1 x110_3).f4))) w.heap.size (fun k_ => some k_ ≠ (v293 : Value).ownBlock) (.slice (some ⟨go95, 0, none⟩) x15_3.length co95) x15_3) := ⟨by (with_reducible repeat (first | apply Kd.R_alloc | apply Kd.R_drewN | apply Kd.R_drew)); exact Kd.R_mono (rf5_ (Kd.R_types HO_15.out BK312.out (by decide))) (fun _ hk => hk.1)⟩
         have n2_ : Aside0 ((((((w112.setCell ⟨gb312, 0, none⟩ (.int .i64 ((rd_T36 l0_1 x110_3).f0))).setCell ⟨gb312, 1, none⟩ (.int .i64 ((rd_T36 l0_1 x110_3).f1))).setCell ⟨gb312, 2, none⟩ (.int .i64 ((rd_T36 l0_1 x110_3).f2))).setCell ⟨gb312, 3, none⟩ (.int .i64 ((rd_T36 l0_1 x110_3).f3))).setCell ⟨gb312, 4, none⟩ (.int .i64 ((rd_T36 l0_1 x110_3).f4))).heap[gb283]? = some (.cells #[.int .i64 a0_0, .slice (some ad311) l0_1.length c0_1] 25 (0, 0))) := ⟨np_ BK283.out⟩
         have n3_ : Aside0 ((((((w112.setCell ⟨gb312, 0, none⟩ (.int .i64 ((rd_T36 l0_1 x110_3).f0))).setCell ⟨gb312, 1, none⟩ (.int .i64 ((rd_T36 l0_1 x110_3).f1))).setCell ⟨gb312, 2, none⟩ (.int .i64 ((rd_T36 l0_1 x110_3).f2))).setCell ⟨gb312, 3, none⟩ (.int .i64 ((rd_T36 l0_1 x110_3).f3))).setCell ⟨gb312, 4, none⟩ (.int .i64 ((rd_T36 l0_1 x110_3).f4))).heap[gb312]? = some (.cells #[.int .i64 ((rd_T36 l0_1 x110_3).f0), .int .i64 ((rd_T36 l0_1 x110_3).f1), .int .i64 ((rd_T36 l0_1 x110_3).f2), .int .i64 ((rd_T36 l0_1 x110_3).f3), .int .i64 ((rd_T36 l0_1 x110_3).f4)] 36 (0, 0))) := ⟨np_ BK312.out⟩
         have n4_ : Aside0 (Below w.heap.size w (((((w112.setCell ⟨gb312, 0, none⟩ (.int .i64 ((rd_T36 l0_1 x110_3).f0))).setCell ⟨gb312, 1, none⟩ (.int .i64 ((rd_T36 l0_1 x110_3).f1))).setCell ⟨gb312, 2, none⟩ (.int .i64 ((rd_T36 l0_1 x110_3).f2))).setCell ⟨gb312, 3, none⟩ (.int .i64 ((rd_T36 l0_1 x110_3).f3))).setCell ⟨gb312, 4, none⟩ (.int .i64 ((rd_T36 l0_1 x110_3).f4)))) := ⟨ne_ HB.out⟩
         (try clear HO_7)
         (try clear HO_15)
         (try clear BK283)
         (try clear BK312)
         (try clear HB)
         generalize (((((w112.setCell ⟨gb312, 0, none⟩ (.int .i64 ((rd_T36 l0_1 x110_3).f0))).setCell ⟨gb312, 1, none⟩ (.int .i64 ((rd_T36 l0_1 x110_3).f1))).setCell ⟨gb312, 2, none⟩ (.int .i64 ((rd_T36 l0_1 x110_3).f2))).setCell ⟨gb312, 3, none⟩ (.int .i64 ((rd_T36 l0_1 x110_3).f3))).setCell ⟨gb312, 4, none⟩ (.int .i64 ((rd_T36 l0_1 x110_3).f4))) = w115 at n0_ n1_ n2_ n3_ n4_ ⊢
         have HO_7 := n0_
         have HO_15 := n1_
         have BK283 := n2_
         have BK312 := n3_
         have HB := n4_
         clear n0_ n1_ n2_ n3_ n4_
         replace HO_7 := Aside0.mk (Kd.R_drew HO_7.out)
         replace HO_15 := Aside0.mk (Kd.R_drew HO_15.out)
         replace BK283 := Aside0.mk (blk_drew BK283.out)
         replace BK312 := Aside0.mk (blk_drew BK312.out)
         replace HB := Aside0.mk (below_drew1 HB.out)
         have p313 : 0 ≤ (((rd_T36 l0_1 x110_3).f1) : Int) := of_decide_eq_true nx_
         have q313 : ((rd_T36 l0_1 x110_3).f1) < (x15_3.length : Int) := of_decide_eq_true nx_
         obtain ⟨ad313, e313, hx313_0⟩ := Kd.at_int (Kd.R_reads' HO_15.out).2.2 ((rd_T36 l0_1 x110_3).f1) p313 q313
         obtain rfl : (⟨go95, 0, none⟩ : Addr) = ad313 := (by injection e313)
         (first | simp only [add_plain] at hx313_0 | simp only [add_at] at hx313_0 | simp only [Addr.add, Nat.zero_add] at hx313_0 | skip)
         replace p313 := eq_true p313
         replace q313 := eq_true q313
         obtain ⟨Ao117, co117, eo117⟩ := Kd.R_slice HO_7.out
         (first | subst eo117 | (injection eo117 with f1_ f2_ f3_; have f4_ := f1_.symm; have f5_ := f3_.symm; clear f1_ f2_ f3_; subst f4_; subst f5_))
         have p314 : 0 ≤ (x110_3 : Int) := of_decide_eq_true nx_
         have q314 : x110_3 < (x7_2.length : Int) := of_decide_eq_true nx_
         obtain ⟨ad314, e314, hx314_0⟩ := Kd.at_int (Kd.R_reads' HO_7.out).2.2 x110_3 p314 q314
         cases e314
         replace p314 := eq_true p314
         replace q314 := eq_true q314
         have p111 : 0 ≤ (((rd_T36 l0_1 x110_3).f1) : Int) := of_decide_eq_true nx_
         have q111 : (((rd_T36 l0_1 x110_3).f1) : Int) < ((x15_3.length : Int) : Int) := of_decide_eq_true nx_
         obtain ⟨hx111_0, hf111_0⟩ := Kd.R_celln 0 HO_15.out (((rd_T36 l0_1 x110_3).f1) : Int) p111 q111
         replace p111 := eq_true p111
         replace q111 := eq_true q111
         have HP118 := Kd.R_putn HO_15.out (((rd_T36 l0_1 x110_3).f1) : Int) ji110
         rw [← Ny315.out] at HP118
         have HQ118 := Aside0.mk HP118
         clear HP118
         refine start_ (n := 15) (S := fun w' => w'.cell? ⟨gb312, 0, none⟩ = some (.int .i64 ((rd_T36 l0_1 x110_3).f0)) ∧ w'.cell? ⟨gb312, 1, none⟩ = some (.int .i64 ((rd_T36 l0_1 x110_3).f1)) ∧ w'.cell? ⟨gb312, 2, none⟩ = some (.int .i64 ((rd_T36 l0_1 x110_3).f2)) ∧ w'.cell? ⟨gb312, 3, none⟩ = some (.int .i64 ((rd_T36 l0_1 x110_3).f3)) ∧ w'.cell? ⟨gb312, 4, none⟩ = some (.int .i64 ((rd_T36 l0_1 x110_3).f4)) ∧ w'.cell? ⟨go95, (((rd_T36 l0_1 x110_3).f1)).toNat, none⟩ = some (.int .i64 (rd x15_3 ((rd_T36 l0_1 x110_3).f1))) ∧ w'.cell? (ad314.add (x110_3).toNat) = some (.int .i64 (rd x7_2 x110_3))) (ds := [14]) (bm_ 15 0) (by kernel_rfl) rfl rfl ⟨ct_ BK312.out 0, ct_ BK312.out 1, ct_ BK312.out 2, ct_ BK312.out 3, ct_ BK312.out 4, hx313_0, hx314_0⟩ (fun hHeld => ?_); refine with_tabW impl_TurnAll.tab29 impl_TurnAll.bits29 (fun HT_ HW_ => ?_)
         generalize w115.drew = w116 at HO_7 HO_15 BK283 BK312 HB HQ118 hf111_0 hx111_0 hx313_0 hx314_0 hHeld ⊢
         refine pu_ 0 115 (bm_ 15 1) HT_.out ?_
         refine pu_ 1 116 (bm_ 15 3) HT_.out ?_
         refine pu_ 3 118 (bm_ 15 11) HT_.out ?_
         refine pu_ 4 119 (bm_ 15 27) HT_.out ?_
         refine pu_ 8 123 (bm_ 15 283) HT_.out ?_
         refine pu_ 9 124 (bm_ 15 795) HT_.out ?_
         refine pu_ 10 125 (bm_ 15 1819) HT_.out ?_
         refine tk_ 2 117 (bm_ 15 1823) HT_.out HW_.out hHeld ?_
         refine tk_ 5 120 (bm_ 15 1855) HT_.out HW_.out hHeld ?_
         refine pu_ 6 121 (bm_ 15 1919) HT_.out ?_
         refine tk_ 7 122 (bm_ 15 2047) HT_.out HW_.out hHeld ?_
         refine tk_ 11 126 (bm_ 15 4095) HT_.out HW_.out hHeld ?_
         refine pu_ 12 127 (bm_ 15 8191) HT_.out ?_
         refine pu_ 13 128 (bm_ 15 16383) HT_.out ?_
         refine last_ (i := 14) (N := none) (bm_ 15 32767) rfl rfl (one_of HT_.out (by kernel_rfl)) (by decide) (fun K hK => ?_)
         refine skip_ (w1 := ?_) (by rfl) rfl ?_ ?_
         rotate_left
         ·go_simp
          rfl
         refine hK.out _ _ ?_
         clear hK K
         refine done_ (done_of HT_.out (by kernel_rfl)) ?_
         try go_wp2
         (try simp only [← hl15_3])
         go_roundg k3
         case measure => have := HJ3.out; have := HK2.out; have := HK3.out; omega
         case rel => exact ⟨(y315), (wrap64 (x110_3 + 1)), ns_, H', ⟨by have := HJ3.out; have := HK2.out; have := HK3.out; omega⟩, ⟨by (try simp only [hl15_3]); (with_reducible repeat (first | apply Kd.R_alloc | apply Kd.R_drewN | apply Kd.R_drew)); exact Kd.R_mono (Kd.R_far (p := ⟨go95, (((rd_T36 l0_1 x110_3).f1) : Int).toNat, none⟩) (Kd.R_mono HO_7.out (fun k_ hk => (⟨hk, fun e_ => hk (by rw [e_]; rfl)⟩ : _ ∧ k_ ≠ go95))) (fun _ hk => hk.2) (.int .i64 ji110)) (fun _ hk => hk.1)⟩, ⟨by (try simp only [hl15_3]); (with_reducible repeat (first | apply Kd.R_alloc | apply Kd.R_drewN | apply Kd.R_drew)); exact HQ118.out⟩, ⟨by (try simp only [hl15_3]); (with_reducible repeat (first | refine blk_drewN ?_ _ | refine blk_drew ?_ | refine blk_alloc ?_ _)); refine blk_far ?_ (by have h_ := Kd.R_ne HO_15.out BK283.out (by decide); intro e_; exact h_ (by rw [e_]; rfl)) _; (with_reducible repeat (first | refine blk_drewN ?_ _ | refine blk_drew ?_ | refine blk_alloc ?_ _)); exact BK283.out⟩, ⟨ne_ HB.out⟩⟩
      subst c25
      rw [if_pos rfl] at H
      have H' := Aside0.mk H
      clear H
      obtain ⟨hcz26_0, hcz26_1, hfz26_0, hfz26_1⟩ := cz2_ BK283.out
      go_wp2
      go_loopg [8, 38] k2 (fun kq v8 v38 w' => ∃ (x7_3 : List Int) (x8_3 : Bool) (x38_3 : Int), v8 = .bool x8_3 ∧ v38 = .int .i64 x38_3 ∧ Aside0 (impl_TurnAll.l1 kq l1 a2 x7_3 x8_3 l0_1 (l0_1.length : Int) x38_3 a0_0 l0_1 = some r) ∧ Aside0 (kq ≤ k2) ∧ Aside0 (Kd.R (Kd.int .i64) 3 w' w.heap.size (fun _ => True) v293 x7_3) ∧ Aside0 (w'.heap[gb283]? = some (.cells #[.int .i64 a0_0, (.slice A0_1 l0_1.length c0_1)] 25 (0, 0))) ∧ Aside0 (Below w.heap.size w w'))
      case atStart => exact ⟨(x7_2), (false), (0), ns_, ns_, H', ⟨Nat.le_refl _⟩, ⟨nr_ HO_7.out⟩, ⟨nb_ BK283.out⟩, ⟨ne_ HB.out⟩⟩
      case round =>
       clear H'
       try clear c1
       try clear c18
       try clear c25
       try clear hcz22_0
       try clear hcz22_1
       try clear hcz26_0
       try clear hcz26_1
       try clear hfz22_0
       try clear hfz22_1
       try clear hfz26_0
       try clear hfz26_1
       obtain ⟨x7_3, x8_3, x38_3, rfl, rfl, HA, HK3, HO_7, BK283, HB⟩ := hrel
       cases gk with
       | zero => exact absurd HA.out (by simp [impl_TurnAll.l1])
       | succ k3 =>
        have H := HA.out
        clear HA
        simp only [impl_TurnAll.l1] at H
        by_cases c27 : x38_3 < (l0_1.length : Int)
        rotate_left
        ·rw [if_neg c27] at H
         have c27b0 : decide (x38_3 < (l0_1.length : Int)) = false := decide_eq_false c27
         clear c27
         have H' := Aside0.mk H
         clear H
         go_wp2
         go_roundg k3
         case measure => have := HJ3.out; have := HK2.out; have := HK3.out; omega
         case rel => exact ⟨(x7_3), (x8_3), ns_, H', ⟨by have := HJ3.out; have := HK2.out; have := HK3.out; omega⟩, ⟨nr_ HO_7.out⟩, ⟨nb_ BK283.out⟩, ⟨ne_ HB.out⟩⟩
        rw [if_pos c27] at H
        have c27b0 : decide (x38_3 < (l0_1.length : Int)) = true := decide_eq_true c27
        clear c27
        by_cases c28 : 0 ≤ x38_3
        rotate_left
        ·rw [if_neg c28] at H
         exact absurd H (by simp)
        rw [if_pos c28] at H
        have c28b0 : decide (0 ≤ x38_3) = true := decide_eq_true c28
        clear c28
        by_cases c29 : x38_3 < (l0_1.length : Int)
        rotate_left
        ·rw [if_neg c29] at H
         exact absurd H (by simp)
        rw [if_pos c29] at H
        have c29b0 : decide (x38_3 < (l0_1.length : Int)) = true := decide_eq_true c29
        clear c29
        have HC30 := Aside0.mk H
        clear H
        have p295 : 0 ≤ (x38_3 : Int) := of_decide_eq_true nx_
        have q295 : x38_3 < (l0_1.length : Int) := of_decide_eq_true nx_
        obtain ⟨ad295, e295, hx295_0, hx295_1, hx295_2, hx295_3, hx295_4⟩ := at_T36 HR0_1.out x38_3 p295 q295
        cases e295
        replace hx295_0 := hb_ HB.out hx295_0
        replace hx295_1 := hb_ HB.out hx295_1
        replace hx295_2 := hb_ HB.out hx295_2
        replace hx295_3 := hb_ HB.out hx295_3
        replace hx295_4 := hb_ HB.out hx295_4
        replace p295 := eq_true p295
        replace q295 := eq_true q295
        go_upto_if 46 with (first | ((with_reducible refine gate_dst (N := 10) rfl ?_); (try (refine gate_guard (by rfl) ?_; dsimp only)); refine bx_ 10 #[.int .i64 0, .int .i64 0, .int .i64 0, .int .i64 0, .int .i64 0] 36 ?_; intro gb296 hg w31 hbox hb; have BK296 := Aside0.mk (hbox); have GW296 := Aside0.mk (zs_ hg (ne_ HB.out)); have GE296 := Aside0.mk (zs_ hg (ne_ HB.out)); have NB283_296 := Aside0.mk (nl_ BK283.out hg); have NB296_283 := Aside0.mk (nm_ BK283.out hg); replace HO_7 := kR_ HO_7 hb; replace BK283 := kb_ BK283 hb; replace HB := kB_ HB hb; clear hb hbox hg; have hnb32 := NB296_283.out; have hnc32 := NB283_296.out; obtain ⟨hcz33_0, hcz33_1, hcz33_2, hcz33_3, hcz33_4, hfz33_0, hfz33_1, hfz33_2, hfz33_3, hfz33_4⟩ := cz5_ BK296.out))
        (try simp only [Act.put, List.setIfInBounds_toArray, List.set_cons_zero, List.set_cons_succ])
        go_cut [11] (fun v11 wc => ∃ (kq : Nat) (x11_29 : Int), v11 = .int .i64 x11_29 ∧ Aside0 (impl_TurnAll.j3 kq l1 a2 x7_3 x8_3 x38_3 x11_29 l0_1 (l0_1.length : Int) x38_3 a0_0 l0_1 ((rd_T36 l0_1 x38_3).f0) ((rd_T36 l0_1 x38_3).f1) ((rd_T36 l0_1 x38_3).f2) ((rd_T36 l0_1 x38_3).f3) ((rd_T36 l0_1 x38_3).f4) = some r) ∧ Aside0 (kq ≤ k3) ∧ Aside0 (Kd.R (Kd.int .i64) 3 wc w.heap.size (fun _ => True) v293 x7_3) ∧ Aside0 (wc.heap[gb283]? = some (.cells #[.int .i64 a0_0, (.slice (some ad295) l0_1.length c0_1)] 25 (0, 0))) ∧ Aside0 (wc.heap[gb296]? = some (.cells #[.int .i64 ((rd_T36 l0_1 x38_3).f0), .int .i64 ((rd_T36 l0_1 x38_3).f1), .int .i64 ((rd_T36 l0_1 x38_3).f2), .int .i64 ((rd_T36 l0_1 x38_3).f3), .int .i64 ((rd_T36 l0_1 x38_3).f4)] 36 (0, 0))) ∧ Aside0 (Below w.heap.size w wc))
        case first =>
         have H := HC30.out
         clear HC30
         by_cases c34 : ((rd_T36 l0_1 x38_3).f0) = a2
         rotate_left
         ·rw [if_neg c34] at H
          have c34b0 : (((rd_T36 l0_1 x38_3).f0) == a2) = false := beq_eq_false_iff_ne.mpr c34
          have c34b1 : (((rd_T36 l0_1 x38_3).f0) != a2) = true := bne_iff_ne.mpr c34
          (first | rw [c34b0] | (simp only [i64_w, i32_w]; rw [c34b0]) | skip)
          have H' := Aside0.mk H
          clear H
          go_wp2
          go_meet
          case rel => exact ⟨_, (99999), ns_, H', ⟨by have := HJ3.out; have := HK2.out; have := HK3.out; first | omega | exact Nat.le_refl _⟩, ⟨by (with_reducible repeat (first | apply Kd.R_alloc | apply Kd.R_drewN | apply Kd.R_drew)); exact Kd.R_mono (rf5_ (Kd.R_types HO_7.out BK296.out (by decide))) (fun _ hk => trivial)⟩, ⟨np_ BK283.out⟩, ⟨np_ BK296.out⟩, ⟨ne_ HB.out⟩⟩
         rw [if_pos c34] at H
         have c34b0 : (((rd_T36 l0_1 x38_3).f0) == a2) = true := beq_iff_eq.mpr c34
         have c34b1 : (((rd_T36 l0_1 x38_3).f0) != a2) = false := bne_eq_false_iff_eq.mpr c34
         clear c34
         (first | rw [c34b0] | (simp only [i64_w, i32_w]; rw [c34b0]) | skip)
         have H' := Aside0.mk H
         clear H
         have hnb35 := NB296_283.out
         have hnc35 := NB283_296.out
         obtain ⟨hcz36_0, hcz36_1, hcz36_2, hcz36_3, hcz36_4, hfz36_0, hfz36_1, hfz36_2, hfz36_3, hfz36_4⟩ := cz5_ BK296.out
         go_wp2
         go_meet
         case rel => exact ⟨_, ((rd_T36 l0_1 x38_3).f2), ns_, H', ⟨by have := HJ3.out; have := HK2.out; have := HK3.out; first | omega | exact Nat.le_refl _⟩, ⟨by (with_reducible repeat (first | apply Kd.R_alloc | apply Kd.R_drewN | apply Kd.R_drew)); exact Kd.R_mono (rf5_ (Kd.R_types HO_7.out BK296.out (by decide))) (fun _ hk => trivial)⟩, ⟨np_ BK283.out⟩, ⟨np_ BK296.out⟩, ⟨ne_ HB.out⟩⟩
        case rest =>
         clear HC30
         try clear c1
         try clear c18
         try clear c25
         try clear c27
         try clear c27b0
         try clear c28
         try clear c28b0
         try clear c29
         try clear c29b0
         try clear hcz22_0
         try clear hcz22_1
         try clear hcz26_0
         try clear hcz26_1
         try clear hcz33_0
         try clear hcz33_1
         try clear hcz33_2
         try clear hcz33_3
         try clear hcz33_4
         try clear hfz22_0
         try clear hfz22_1
         try clear hfz26_0
         try clear hfz26_1
         try clear hfz33_0
         try clear hfz33_1
         try clear hfz33_2
         try clear hfz33_3
         try clear hfz33_4
         try clear hx295_0
         try clear hx295_1
         try clear hx295_2
         try clear hx295_3
         try clear hx295_4
         try clear p295
         try clear q295
         obtain ⟨kq, x11_29, rfl, HA, HJ29, HO_7, BK283, BK296, HB⟩ := hcut
         cases kq with
         | zero => exact absurd HA.out (by simp [impl_TurnAll.j3])
         | succ kj29 =>
          have H := HA.out
          clear HA
          simp only [impl_TurnAll.j3] at H
          have H' := Aside0.mk H
          clear H
          have hnb37 := NB283_296.out
          have hnc37 := NB296_283.out
          obtain ⟨hcz38_0, hcz38_1, hfz38_0, hfz38_1⟩ := cz2_ BK283.out
          go_wp2
          go_loopg [11, 52] kj29 (fun kq v11 v52 w' => ∃ (x11_5 : Int) (x52_5 : Int), v11 = .int .i64 x11_5 ∧ v52 = .int .i64 x52_5 ∧ Aside0 (impl_TurnAll.l2 kq l1 a2 x7_3 x8_3 x38_3 x11_5 l0_1 (l0_1.length : Int) x38_3 l0_1 (l0_1.length : Int) x52_5 a0_0 l0_1 ((rd_T36 l0_1 x38_3).f0) ((rd_T36 l0_1 x38_3).f1) ((rd_T36 l0_1 x38_3).f2) ((rd_T36 l0_1 x38_3).f3) ((rd_T36 l0_1 x38_3).f4) = some r) ∧ Aside0 (kq ≤ kj29) ∧ Aside0 (Kd.R (Kd.int .i64) 3 w' w.heap.size (fun _ => True) v293 x7_3) ∧ Aside0 (w'.heap[gb283]? = some (.cells #[.int .i64 a0_0, (.slice (some ad295) l0_1.length c0_1)] 25 (0, 0))) ∧ Aside0 (w'.heap[gb296]? = some (.cells #[.int .i64 ((rd_T36 l0_1 x38_3).f0), .int .i64 ((rd_T36 l0_1 x38_3).f1), .int .i64 ((rd_T36 l0_1 x38_3).f2), .int .i64 ((rd_T36 l0_1 x38_3).f3), .int .i64 ((rd_T36 l0_1 x38_3).f4)] 36 (0, 0))) ∧ Aside0 (Below w.heap.size w w'))
          case atStart => exact ⟨(x11_29), (0), ns_, ns_, H', ⟨Nat.le_refl _⟩, ⟨nr_ HO_7.out⟩, ⟨nb_ BK283.out⟩, ⟨nb_ BK296.out⟩, ⟨ne_ HB.out⟩⟩
          case round =>
           clear H'
           try clear c1
           try clear c18
           try clear c25
           try clear c27
           try clear c27b0
           try clear c28
           try clear c28b0
           try clear c29
           try clear c29b0
           try clear hcz22_0
           try clear hcz22_1
           try clear hcz26_0
           try clear hcz26_1
           try clear hcz33_0
           try clear hcz33_1
           try clear hcz33_2
           try clear hcz33_3
           try clear hcz33_4
           try clear hcz38_0
           try clear hcz38_1
           try clear hfz22_0
           try clear hfz22_1
           try clear hfz26_0
           try clear hfz26_1
           try clear hfz33_0
           try clear hfz33_1
           try clear hfz33_2
           try clear hfz33_3
           try clear hfz33_4
           try clear hfz38_0
           try clear hfz38_1
           try clear hx295_0
           try clear hx295_1
           try clear hx295_2
           try clear hx295_3
           try clear hx295_4
           try clear p295
           try clear q295
           obtain ⟨x11_5, x52_5, rfl, rfl, HA, HK5, HO_7, BK283, BK296, HB⟩ := hrel
           cases gk with
           | zero => exact absurd HA.out (by simp [impl_TurnAll.l2])
           | succ k5 =>
            have H := HA.out
            clear HA
            simp only [impl_TurnAll.l2] at H
            by_cases c39 : x52_5 < (l0_1.length : Int)
            rotate_left
            ·rw [if_neg c39] at H
             have c39b0 : decide (x52_5 < (l0_1.length : Int)) = false := decide_eq_false c39
             clear c39
             by_cases c84 : 0 ≤ x38_3
             rotate_left
             ·rw [if_neg c84] at H
              exact absurd H (by simp)
             rw [if_pos c84] at H
             have c84b0 : decide (0 ≤ x38_3) = true := decide_eq_true c84
             clear c84
             by_cases c85 : x38_3 < (x7_3.length : Int)
             rotate_left
             ·rw [if_neg c85] at H
              exact absurd H (by simp)
             rw [if_pos c85] at H
             have c85b0 : decide (x38_3 < (x7_3.length : Int)) = true := decide_eq_true c85
             clear c85
             by_cases c86 : x11_5 < (rd x7_3 x38_3)
             rotate_left
             ·rw [if_neg c86] at H
              have c86b0 : decide (x11_5 < (rd x7_3 x38_3)) = false := decide_eq_false c86
              clear c86
              have H' := Aside0.mk H
              clear H
              obtain ⟨Ao91, co91, eo91⟩ := Kd.R_slice HO_7.out
              subst eo91
              have p302 : 0 ≤ (x38_3 : Int) := of_decide_eq_true nx_
              have q302 : x38_3 < (x7_3.length : Int) := of_decide_eq_true nx_
              obtain ⟨ad302, e302, hx302_0⟩ := Kd.at_int (Kd.R_reads' HO_7.out).2.2 x38_3 p302 q302
              cases e302
              replace p302 := eq_true p302
              replace q302 := eq_true q302
              go_wp2
              go_roundg k5
              case measure => have := HJ3.out; have := HK2.out; have := HK3.out; have := HJ29.out; have := HK5.out; omega
              case rel => exact ⟨(x7_3), (x8_3), (wrap64 (x38_3 + 1)), ns_, ns_, H', ⟨by have := HJ3.out; have := HK2.out; have := HK3.out; have := HJ29.out; have := HK5.out; omega⟩, ⟨nr_ HO_7.out⟩, ⟨nb_ BK283.out⟩, ⟨ne_ HB.out⟩⟩
             rw [if_pos c86] at H
             have c86b0 : decide (x11_5 < (rd x7_3 x38_3)) = true := decide_eq_true c86
             clear c86
             obtain ⟨y303, hy303⟩ : ∃ y_ : List Int, y_ = (x7_3.set (x38_3 : Int).toNat x11_5) := ⟨_, rfl⟩
             replace H : (impl_TurnAll.l1 k5 l1 a2 y303 true l0_1 (l0_1.length : Int) (wrap64 (x38_3 + 1)) a0_0 l0_1) = some r := by first | (rw [hy303]; with_reducible exact H) | (have H2_ := (Option.bind_some _ _).symm.trans H; rw [hy303]; with_reducible exact H2_) | (have H2_ := (Option.bind_some _ _).symm.trans H; with_reducible exact H2_) | with_reducible exact H | (rw [hy303]; exact H) | exact H
             have Ny303 := Aside0.mk hy303
             clear hy303
             have H' := Aside0.mk H
             clear H
             obtain ⟨Ao88, co88, eo88⟩ := Kd.R_slice HO_7.out
             subst eo88
             have p302 : 0 ≤ (x38_3 : Int) := of_decide_eq_true nx_
             have q302 : x38_3 < (x7_3.length : Int) := of_decide_eq_true nx_
             obtain ⟨ad302, e302, hx302_0⟩ := Kd.at_int (Kd.R_reads' HO_7.out).2.2 x38_3 p302 q302
             cases e302
             replace p302 := eq_true p302
             replace q302 := eq_true q302
             have p87 : 0 ≤ (x38_3 : Int) := of_decide_eq_true nx_
             have q87 : (x38_3 : Int) < ((x7_3.length : Int) : Int) := of_decide_eq_true nx_
             obtain ⟨go87, co87, eo87, gb87, gl87, cl87, HG87⟩ := Kd.R_form HO_7.out (by omega)
             (first | cases eo87 | (injection eo87 with ea_ en_ ec_; (first | subst ea_ | (injection ea_ with ea_; subst ea_)); subst ec_; clear en_))
             have GB87 := Aside0.mk gb87
             have GG87 := Aside0.mk HG87
             clear gb87 gl87 HG87
             (first | simp only [add_plain] at hx302_0 | skip)
             obtain ⟨hx87_0, hf87_0⟩ := Kd.R_celln 0 HO_7.out (x38_3 : Int) p87 q87
             replace p87 := eq_true p87
             replace q87 := eq_true q87
             have HP89 := Kd.R_putg HO_7.out (x38_3 : Int) x11_5
             go_wp2_with (first | ((with_reducible refine gate_store (t := 3) (p := 98) rfl ?_); refine store_event (t := 3) (p := 98) (v := ?vo_w90) (w1 := (wr.setCell ⟨go87, (x38_3 : Int).toNat, none⟩ (.int .i64 x11_5))) ?hg ?ho ?hn ?hr ?_; (case ho => rfl); (case hg => rfl); (case hn => rfl); (case hr => first | (go_simp; done) | (go_simp; rfl)); intro w90 hw; have hg : wr.grownBy w90 (some go87) := (by rw [hw]; exact HP89.2); have hp_ : Kd.R (Kd.int .i64) 3 w90 w.heap.size (fun _ => True) (.slice (some ⟨go87, 0, none⟩) x7_3.length co88) y303 := (by rw [hw, Ny303.out]; exact HP89.1); clear HP89; replace BK283 := Aside0.mk (blk_grown (g := gb283) (o := .cells #[.int .i64 a0_0, .slice (some ad295) l0_1.length c0_1] 25 (0, 0)) (nb_ BK283.out) hg (Kd.R_ne HO_7.out BK283.out (by decide))); replace BK296 := Aside0.mk (blk_grown (g := gb296) (o := .cells #[.int .i64 ((rd_T36 l0_1 x38_3).f0), .int .i64 ((rd_T36 l0_1 x38_3).f1), .int .i64 ((rd_T36 l0_1 x38_3).f2), .int .i64 ((rd_T36 l0_1 x38_3).f3), .int .i64 ((rd_T36 l0_1 x38_3).f4)] 36 (0, 0)) (nb_ BK296.out) hg (Kd.R_ne HO_7.out BK296.out (by decide))); replace HO_7 := Aside0.mk (hp_); replace HB := Aside0.mk ((by rw [hw]; exact below_set (HB.out) GB87.out : Below w.heap.size w w90)); clear hg hw hp_))
             go_roundg k5
             case measure => have := HJ3.out; have := HK2.out; have := HK3.out; have := HJ29.out; have := HK5.out; omega
             case rel => exact ⟨(y303), (true), (wrap64 (x38_3 + 1)), ns_, ns_, H', ⟨by have := HJ3.out; have := HK2.out; have := HK3.out; have := HJ29.out; have := HK5.out; omega⟩, ⟨nr_ HO_7.out⟩, ⟨nb_ BK283.out⟩, ⟨ne_ HB.out⟩⟩
            rw [if_pos c39] at H
            have c39b0 : decide (x52_5 < (l0_1.length : Int)) = true := decide_eq_true c39
            clear c39
            by_cases c40 : 0 ≤ x52_5
            rotate_left
            ·rw [if_neg c40] at H
             exact absurd H (by simp)
            rw [if_pos c40] at H
            have c40b0 : decide (0 ≤ x52_5) = true := decide_eq_true c40
            clear c40
            by_cases c41 : x52_5 < (l0_1.length : Int)
            rotate_left
            ·rw [if_neg c41] at H
             exact absurd H (by simp)
            rw [if_pos c41] at H
            have c41b0 : decide (x52_5 < (l0_1.length : Int)) = true := decide_eq_true c41
            clear c41
            replace H := Option.bind_eq_some_iff.mp H
            obtain ⟨t299, A420, H⟩ := H
            try dsimp only at H
            have A42 := Aside0.mk A420
            clear A420
            by_cases c43 : ((rd_T36 l0_1 x52_5).f1) = ((rd_T36 l0_1 x38_3).f0)
            rotate_left
            ·rw [if_neg c43] at H
             have c43b0 : (((rd_T36 l0_1 x52_5).f1) == ((rd_T36 l0_1 x38_3).f0)) = false := beq_eq_false_iff_ne.mpr c43
             have c43b1 : (((rd_T36 l0_1 x52_5).f1) != ((rd_T36 l0_1 x38_3).f0)) = true := bne_iff_ne.mpr c43
             have H' := Aside0.mk H
             clear H
             have p297 : 0 ≤ (x52_5 : Int) := of_decide_eq_true nx_
             have q297 : x52_5 < (l0_1.length : Int) := of_decide_eq_true nx_
             obtain ⟨ad297, e297, hx297_0, hx297_1, hx297_2, hx297_3, hx297_4⟩ := at_T36 HR0_1.out x52_5 p297 q297
             obtain rfl : ad295 = ad297 := (by injection e297)
             replace hx297_0 := hb_ HB.out hx297_0
             replace hx297_1 := hb_ HB.out hx297_1
             replace hx297_2 := hb_ HB.out hx297_2
             replace hx297_3 := hb_ HB.out hx297_3
             replace hx297_4 := hb_ HB.out hx297_4
             replace p297 := eq_true p297
             replace q297 := eq_true q297
             go_wp2_with (first | ((with_reducible refine gate_dst (N := 13) rfl ?_); (try (refine gate_guard (by rfl) ?_; dsimp only)); refine bx_ 13 #[.int .i64 0, .int .i64 0, .int .i64 0, .int .i64 0, .int .i64 0] 36 ?_; intro gb298 hg w76 hbox hb; have BK298 := Aside0.mk (hbox); have GW298 := Aside0.mk (zs_ hg (ne_ HB.out)); have GE298 := Aside0.mk (zs_ hg (ne_ HB.out)); have NB283_298 := Aside0.mk (nl_ BK283.out hg); have NB298_283 := Aside0.mk (nm_ BK283.out hg); have NB296_298 := Aside0.mk (nl_ BK296.out hg); have NB298_296 := Aside0.mk (nm_ BK296.out hg); replace HO_7 := kR_ HO_7 hb; replace BK283 := kb_ BK283 hb; replace BK296 := kb_ BK296 hb; replace HB := kB_ HB hb; clear hb hbox hg; have hnb77 := NB298_283.out; have hnc77 := NB283_298.out; have hnb78 := NB298_296.out; have hnc78 := NB296_298.out; obtain ⟨hcz79_0, hcz79_1, hcz79_2, hcz79_3, hcz79_4, hfz79_0, hfz79_1, hfz79_2, hfz79_3, hfz79_4⟩ := cz5_ BK298.out) | ((with_reducible refine gate_callee (f := 16) rfl ?_); refine gl_ (some 60) Try.func16 #[.slice A1 l1.length c1, .int .i64 x52_5, .int .i64 x38_3] ?_; (with_reducible refine (impl_turning.calls k5 _ _ l1 x52_5 x38_3 t299 _ ?side1 ?side2 A42.out).mono ?_); (case side1 => exact Kd.C_below HR1.out (ne_ HB.out)); (case side2 => exact HC1.out); rintro e w80 ⟨rfl, hb⟩; refine ⟨_, rfl, ?_⟩; replace HO_7 := Aside0.mk (Kd.R_below (by (with_reducible repeat (first | apply Kd.R_alloc | apply Kd.R_drewN | apply Kd.R_drew)); exact (Kd.R_mono (rf5_ (Kd.R_types HO_7.out BK298.out (by decide))) (fun _ h_ => h_.1))) hb); replace BK283 := kf_ BK283 hb; replace BK296 := kf_ BK296 hb; replace BK298 := Aside0.mk (blk_below (g := gb298) (o := .cells #[.int .i64 ((rd_T36 l0_1 x52_5).f0), .int .i64 ((rd_T36 l0_1 x52_5).f1), .int .i64 ((rd_T36 l0_1 x52_5).f2), .int .i64 ((rd_T36 l0_1 x52_5).f3), .int .i64 ((rd_T36 l0_1 x52_5).f4)] 36 (0, 0)) (np_ BK298.out) hb); replace HB := kB_ HB hb; (try clear hb); (try clear hb2); (try clear hk); (try clear hi); obtain ⟨hcz81_0, hcz81_1, hcz81_2, hcz81_3, hcz81_4, hfz81_0, hfz81_1, hfz81_2, hfz81_3, hfz81_4⟩ := cz5_ BK298.out; have hnb82 := NB296_283.out; have hnc82 := NB283_296.out; obtain ⟨hcz83_0, hcz83_1, hcz83_2, hcz83_3, hcz83_4, hfz83_0, hfz83_1, hfz83_2, hfz83_3, hfz83_4⟩ := cz5_ BK296.out))
             go_roundg k5
             case measure => have := HJ3.out; have := HK2.out; have := HK3.out; have := HJ29.out; have := HK5.out; omega
             case rel => exact ⟨(x11_5), (wrap64 (x52_5 + 1)), ns_, ns_, H', ⟨by have := HJ3.out; have := HK2.out; have := HK3.out; have := HJ29.out; have := HK5.out; omega⟩, ⟨nr_ HO_7.out⟩, ⟨nb_ BK283.out⟩, ⟨nb_ BK296.out⟩, ⟨ne_ HB.out⟩⟩
            rw [if_pos c43] at H
            have c43b0 : (((rd_T36 l0_1 x52_5).f1) == ((rd_T36 l0_1 x38_3).f0)) = true := beq_iff_eq.mpr c43
            have c43b1 : (((rd_T36 l0_1 x52_5).f1) != ((rd_T36 l0_1 x38_3).f0)) = false := bne_eq_false_iff_eq.mpr c43
            clear c43
            by_cases c44 : x52_5 < (x7_3.length : Int)
            rotate_left
            ·rw [if_neg c44] at H
             exact absurd H (by simp)
            rw [if_pos c44] at H
            have c44b0 : decide (x52_5 < (x7_3.length : Int)) = true := decide_eq_true c44
            clear c44
            by_cases c45 : (rd x7_3 x52_5) < 99999
            rotate_left
            ·rw [if_neg c45] at H
             have c45b0 : decide ((rd x7_3 x52_5) < 99999) = false := decide_eq_false c45
             clear c45
             have H' := Aside0.mk H
             clear H
             have p297 : 0 ≤ (x52_5 : Int) := of_decide_eq_true nx_
             have q297 : x52_5 < (l0_1.length : Int) := of_decide_eq_true nx_
             obtain ⟨ad297, e297, hx297_0, hx297_1, hx297_2, hx297_3, hx297_4⟩ := at_T36 HR0_1.out x52_5 p297 q297
             obtain rfl : ad295 = ad297 := (by injection e297)
             replace hx297_0 := hb_ HB.out hx297_0
             replace hx297_1 := hb_ HB.out hx297_1
             replace hx297_2 := hb_ HB.out hx297_2
             replace hx297_3 := hb_ HB.out hx297_3
             replace hx297_4 := hb_ HB.out hx297_4
             replace p297 := eq_true p297
             replace q297 := eq_true q297
             go_wp2_with (first | ((with_reducible refine gate_dst (N := 13) rfl ?_); (try (refine gate_guard (by rfl) ?_; dsimp only)); refine bx_ 13 #[.int .i64 0, .int .i64 0, .int .i64 0, .int .i64 0, .int .i64 0] 36 ?_; intro gb298 hg w67 hbox hb; have BK298 := Aside0.mk (hbox); have GW298 := Aside0.mk (zs_ hg (ne_ HB.out)); have GE298 := Aside0.mk (zs_ hg (ne_ HB.out)); have NB283_298 := Aside0.mk (nl_ BK283.out hg); have NB298_283 := Aside0.mk (nm_ BK283.out hg); have NB296_298 := Aside0.mk (nl_ BK296.out hg); have NB298_296 := Aside0.mk (nm_ BK296.out hg); replace HO_7 := kR_ HO_7 hb; replace BK283 := kb_ BK283 hb; replace BK296 := kb_ BK296 hb; replace HB := kB_ HB hb; clear hb hbox hg; have hnb68 := NB298_283.out; have hnc68 := NB283_298.out; have hnb69 := NB298_296.out; have hnc69 := NB296_298.out; obtain ⟨hcz70_0, hcz70_1, hcz70_2, hcz70_3, hcz70_4, hfz70_0, hfz70_1, hfz70_2, hfz70_3, hfz70_4⟩ := cz5_ BK298.out) | ((with_reducible refine gate_callee (f := 16) rfl ?_); refine gl_ (some 60) Try.func16 #[.slice A1 l1.length c1, .int .i64 x52_5, .int .i64 x38_3] ?_; (with_reducible refine (impl_turning.calls k5 _ _ l1 x52_5 x38_3 t299 _ ?side1 ?side2 A42.out).mono ?_); (case side1 => exact Kd.C_below HR1.out (ne_ HB.out)); (case side2 => exact HC1.out); rintro e w71 ⟨rfl, hb⟩; refine ⟨_, rfl, ?_⟩; replace HO_7 := Aside0.mk (Kd.R_below (by (with_reducible repeat (first | apply Kd.R_alloc | apply Kd.R_drewN | apply Kd.R_drew)); exact (Kd.R_mono (rf5_ (Kd.R_types HO_7.out BK298.out (by decide))) (fun _ h_ => h_.1))) hb); replace BK283 := kf_ BK283 hb; replace BK296 := kf_ BK296 hb; replace BK298 := Aside0.mk (blk_below (g := gb298) (o := .cells #[.int .i64 ((rd_T36 l0_1 x52_5).f0), .int .i64 ((rd_T36 l0_1 x52_5).f1), .int .i64 ((rd_T36 l0_1 x52_5).f2), .int .i64 ((rd_T36 l0_1 x52_5).f3), .int .i64 ((rd_T36 l0_1 x52_5).f4)] 36 (0, 0)) (np_ BK298.out) hb); replace HB := kB_ HB hb; (try clear hb); (try clear hb2); (try clear hk); (try clear hi); obtain ⟨hcz72_0, hcz72_1, hcz72_2, hcz72_3, hcz72_4, hfz72_0, hfz72_1, hfz72_2, hfz72_3, hfz72_4⟩ := cz5_ BK298.out; have hnb73 := NB296_283.out; have hnc73 := NB283_296.out; obtain ⟨hcz74_0, hcz74_1, hcz74_2, hcz74_3, hcz74_4, hfz74_0, hfz74_1, hfz74_2, hfz74_3, hfz74_4⟩ := cz5_ BK296.out; obtain ⟨Ao75, co75, eo75⟩ := Kd.R_slice HO_7.out; subst eo75; have p300 : 0 ≤ (x52_5 : Int) := of_decide_eq_true nx_; have q300 : x52_5 < (x7_3.length : Int) := of_decide_eq_true nx_; obtain ⟨ad300, e300, hx300_0⟩ := Kd.at_int (Kd.R_reads' HO_7.out).2.2 x52_5 p300 q300; cases e300; replace p300 := eq_true p300; replace q300 := eq_true q300))
             go_roundg k5
             case measure => have := HJ3.out; have := HK2.out; have := HK3.out; have := HJ29.out; have := HK5.out; omega
             case rel => exact ⟨(x11_5), (wrap64 (x52_5 + 1)), ns_, ns_, H', ⟨by have := HJ3.out; have := HK2.out; have := HK3.out; have := HJ29.out; have := HK5.out; omega⟩, ⟨nr_ HO_7.out⟩, ⟨nb_ BK283.out⟩, ⟨nb_ BK296.out⟩, ⟨ne_ HB.out⟩⟩
            rw [if_pos c45] at H
            have c45b0 : decide ((rd x7_3 x52_5) < 99999) = true := decide_eq_true c45
            clear c45
            by_cases c46 : t299 ≥ 0
            rotate_left
            ·rw [if_neg c46] at H
             have c46b0 : decide (0 ≤ t299) = false := decide_eq_false c46
             clear c46
             have H' := Aside0.mk H
             clear H
             have p297 : 0 ≤ (x52_5 : Int) := of_decide_eq_true nx_
             have q297 : x52_5 < (l0_1.length : Int) := of_decide_eq_true nx_
             obtain ⟨ad297, e297, hx297_0, hx297_1, hx297_2, hx297_3, hx297_4⟩ := at_T36 HR0_1.out x52_5 p297 q297
             obtain rfl : ad295 = ad297 := (by injection e297)
             replace hx297_0 := hb_ HB.out hx297_0
             replace hx297_1 := hb_ HB.out hx297_1
             replace hx297_2 := hb_ HB.out hx297_2
             replace hx297_3 := hb_ HB.out hx297_3
             replace hx297_4 := hb_ HB.out hx297_4
             replace p297 := eq_true p297
             replace q297 := eq_true q297
             go_wp2_with (first | ((with_reducible refine gate_dst (N := 13) rfl ?_); (try (refine gate_guard (by rfl) ?_; dsimp only)); refine bx_ 13 #[.int .i64 0, .int .i64 0, .int .i64 0, .int .i64 0, .int .i64 0] 36 ?_; intro gb298 hg w58 hbox hb; have BK298 := Aside0.mk (hbox); have GW298 := Aside0.mk (zs_ hg (ne_ HB.out)); have GE298 := Aside0.mk (zs_ hg (ne_ HB.out)); have NB283_298 := Aside0.mk (nl_ BK283.out hg); have NB298_283 := Aside0.mk (nm_ BK283.out hg); have NB296_298 := Aside0.mk (nl_ BK296.out hg); have NB298_296 := Aside0.mk (nm_ BK296.out hg); replace HO_7 := kR_ HO_7 hb; replace BK283 := kb_ BK283 hb; replace BK296 := kb_ BK296 hb; replace HB := kB_ HB hb; clear hb hbox hg; have hnb59 := NB298_283.out; have hnc59 := NB283_298.out; have hnb60 := NB298_296.out; have hnc60 := NB296_298.out; obtain ⟨hcz61_0, hcz61_1, hcz61_2, hcz61_3, hcz61_4, hfz61_0, hfz61_1, hfz61_2, hfz61_3, hfz61_4⟩ := cz5_ BK298.out) | ((with_reducible refine gate_callee (f := 16) rfl ?_); refine gl_ (some 60) Try.func16 #[.slice A1 l1.length c1, .int .i64 x52_5, .int .i64 x38_3] ?_; (with_reducible refine (impl_turning.calls k5 _ _ l1 x52_5 x38_3 t299 _ ?side1 ?side2 A42.out).mono ?_); (case side1 => exact Kd.C_below HR1.out (ne_ HB.out)); (case side2 => exact HC1.out); rintro e w62 ⟨rfl, hb⟩; refine ⟨_, rfl, ?_⟩; replace HO_7 := Aside0.mk (Kd.R_below (by (with_reducible repeat (first | apply Kd.R_alloc | apply Kd.R_drewN | apply Kd.R_drew)); exact (Kd.R_mono (rf5_ (Kd.R_types HO_7.out BK298.out (by decide))) (fun _ h_ => h_.1))) hb); replace BK283 := kf_ BK283 hb; replace BK296 := kf_ BK296 hb; replace BK298 := Aside0.mk (blk_below (g := gb298) (o := .cells #[.int .i64 ((rd_T36 l0_1 x52_5).f0), .int .i64 ((rd_T36 l0_1 x52_5).f1), .int .i64 ((rd_T36 l0_1 x52_5).f2), .int .i64 ((rd_T36 l0_1 x52_5).f3), .int .i64 ((rd_T36 l0_1 x52_5).f4)] 36 (0, 0)) (np_ BK298.out) hb); replace HB := kB_ HB hb; (try clear hb); (try clear hb2); (try clear hk); (try clear hi); obtain ⟨hcz63_0, hcz63_1, hcz63_2, hcz63_3, hcz63_4, hfz63_0, hfz63_1, hfz63_2, hfz63_3, hfz63_4⟩ := cz5_ BK298.out; have hnb64 := NB296_283.out; have hnc64 := NB283_296.out; obtain ⟨hcz65_0, hcz65_1, hcz65_2, hcz65_3, hcz65_4, hfz65_0, hfz65_1, hfz65_2, hfz65_3, hfz65_4⟩ := cz5_ BK296.out; obtain ⟨Ao66, co66, eo66⟩ := Kd.R_slice HO_7.out; subst eo66; have p300 : 0 ≤ (x52_5 : Int) := of_decide_eq_true nx_; have q300 : x52_5 < (x7_3.length : Int) := of_decide_eq_true nx_; obtain ⟨ad300, e300, hx300_0⟩ := Kd.at_int (Kd.R_reads' HO_7.out).2.2 x52_5 p300 q300; cases e300; replace p300 := eq_true p300; replace q300 := eq_true q300))
             go_roundg k5
             case measure => have := HJ3.out; have := HK2.out; have := HK3.out; have := HJ29.out; have := HK5.out; omega
             case rel => exact ⟨(x11_5), (wrap64 (x52_5 + 1)), ns_, ns_, H', ⟨by have := HJ3.out; have := HK2.out; have := HK3.out; have := HJ29.out; have := HK5.out; omega⟩, ⟨nr_ HO_7.out⟩, ⟨nb_ BK283.out⟩, ⟨nb_ BK296.out⟩, ⟨ne_ HB.out⟩⟩
            rw [if_pos c46] at H
            have c46b0 : decide (0 ≤ t299) = true := decide_eq_true c46
            clear c46
            obtain ⟨ji47, hji47⟩ : ∃ j_ : Int, (mn x11_5 (wrap64 ((wrap64 ((rd x7_3 x52_5) + t299)) + ((rd_T36 l0_1 x38_3).f2)))) = j_ := ⟨_, rfl⟩
            replace H : (impl_TurnAll.l2 k5 l1 a2 x7_3 x8_3 x38_3 ji47 l0_1 (l0_1.length : Int) x38_3 l0_1 (l0_1.length : Int) (wrap64 (x52_5 + 1)) a0_0 l0_1 ((rd_T36 l0_1 x38_3).f0) ((rd_T36 l0_1 x38_3).f1) ((rd_T36 l0_1 x38_3).f2) ((rd_T36 l0_1 x38_3).f3) ((rd_T36 l0_1 x38_3).f4)) = some r := by first | (rw [hji47] at H; exact H) | (simp only [hji47] at H ⊢; exact H)
            (try rw [hji47] at A42)
            have hji47_ : (if (wrap64 ((wrap64 ((rd x7_3 x52_5) + t299)) + ((rd_T36 l0_1 x38_3).f2))) < x11_5 then (wrap64 ((wrap64 ((rd x7_3 x52_5) + t299)) + ((rd_T36 l0_1 x38_3).f2))) else x11_5) = ji47 := hji47
            have H' := Aside0.mk H
            clear H
            have p297 : 0 ≤ (x52_5 : Int) := of_decide_eq_true nx_
            have q297 : x52_5 < (l0_1.length : Int) := of_decide_eq_true nx_
            obtain ⟨ad297, e297, hx297_0, hx297_1, hx297_2, hx297_3, hx297_4⟩ := at_T36 HR0_1.out x52_5 p297 q297
            obtain rfl : ad295 = ad297 := (by injection e297)
            replace hx297_0 := hb_ HB.out hx297_0
            replace hx297_1 := hb_ HB.out hx297_1
            replace hx297_2 := hb_ HB.out hx297_2
            replace hx297_3 := hb_ HB.out hx297_3
            replace hx297_4 := hb_ HB.out hx297_4
            replace p297 := eq_true p297
            replace q297 := eq_true q297
            try go_wp2_with (first | ((with_reducible refine gate_dst (N := 13) rfl ?_); (try (refine gate_guard (by rfl) ?_; dsimp only)); refine bx_ 13 #[.int .i64 0, .int .i64 0, .int .i64 0, .int .i64 0, .int .i64 0] 36 ?_; intro gb298 hg w48 hbox hb; have BK298 := Aside0.mk (hbox); have GW298 := Aside0.mk (zs_ hg (ne_ HB.out)); have GE298 := Aside0.mk (zs_ hg (ne_ HB.out)); have NB283_298 := Aside0.mk (nl_ BK283.out hg); have NB298_283 := Aside0.mk (nm_ BK283.out hg); have NB296_298 := Aside0.mk (nl_ BK296.out hg); have NB298_296 := Aside0.mk (nm_ BK296.out hg); replace HO_7 := kR_ HO_7 hb; replace BK283 := kb_ BK283 hb; replace BK296 := kb_ BK296 hb; replace HB := kB_ HB hb; clear hb hbox hg; have hnb49 := NB298_283.out; have hnc49 := NB283_298.out; have hnb50 := NB298_296.out; have hnc50 := NB296_298.out; obtain ⟨hcz51_0, hcz51_1, hcz51_2, hcz51_3, hcz51_4, hfz51_0, hfz51_1, hfz51_2, hfz51_3, hfz51_4⟩ := cz5_ BK298.out) | ((with_reducible refine gate_callee (f := 16) rfl ?_); refine gl_ (some 60) Try.func16 #[.slice A1 l1.length c1, .int .i64 x52_5, .int .i64 x38_3] ?_; (with_reducible refine (impl_turning.calls k5 _ _ l1 x52_5 x38_3 t299 _ ?side1 ?side2 A42.out).mono ?_); (case side1 => exact Kd.C_below HR1.out (ne_ HB.out)); (case side2 => exact HC1.out); rintro e w52 ⟨rfl, hb⟩; refine ⟨_, rfl, ?_⟩; replace HO_7 := Aside0.mk (Kd.R_below (by (with_reducible repeat (first | apply Kd.R_alloc | apply Kd.R_drewN | apply Kd.R_drew)); exact (Kd.R_mono (rf5_ (Kd.R_types HO_7.out BK298.out (by decide))) (fun _ h_ => h_.1))) hb); replace BK283 := kf_ BK283 hb; replace BK296 := kf_ BK296 hb; replace BK298 := Aside0.mk (blk_below (g := gb298) (o := .cells #[.int .i64 ((rd_T36 l0_1 x52_5).f0), .int .i64 ((rd_T36 l0_1 x52_5).f1), .int .i64 ((rd_T36 l0_1 x52_5).f2), .int .i64 ((rd_T36 l0_1 x52_5).f3), .int .i64 ((rd_T36 l0_1 x52_5).f4)] 36 (0, 0)) (np_ BK298.out) hb); replace HB := kB_ HB hb; (try clear hb); (try clear hb2); (try clear hk); (try clear hi); obtain ⟨hcz53_0, hcz53_1, hcz53_2, hcz53_3, hcz53_4, hfz53_0, hfz53_1, hfz53_2, hfz53_3, hfz53_4⟩ := cz5_ BK298.out; have hnb54 := NB296_283.out; have hnc54 := NB283_296.out; obtain ⟨hcz55_0, hcz55_1, hcz55_2, hcz55_3, hcz55_4, hfz55_0, hfz55_1, hfz55_2, hfz55_3, hfz55_4⟩ := cz5_ BK296.out; obtain ⟨Ao56, co56, eo56⟩ := Kd.R_slice HO_7.out; subst eo56; have p300 : 0 ≤ (x52_5 : Int) := of_decide_eq_true nx_; have q300 : x52_5 < (x7_3.length : Int) := of_decide_eq_true nx_; obtain ⟨ad300, e300, hx300_0⟩ := Kd.at_int (Kd.R_reads' HO_7.out).2.2 x52_5 p300 q300; cases e300; replace p300 := eq_true p300; replace q300 := eq_true q300))
            replace HO_7 := Aside0.mk (Kd.R_drew HO_7.out)
            replace BK283 := Aside0.mk (blk_drew BK283.out)
            replace BK296 := Aside0.mk (blk_drew BK296.out)
            replace BK298 := Aside0.mk (blk_drew BK298.out)
            replace HB := Aside0.mk (below_drew1 HB.out)
            have p301 : 0 ≤ (x52_5 : Int) := of_decide_eq_true nx_
            have q301 : x52_5 < (x7_3.length : Int) := of_decide_eq_true nx_
            obtain ⟨ad301, e301, hx301_0⟩ := Kd.at_int (Kd.R_reads' HO_7.out).2.2 x52_5 p301 q301
            obtain rfl : ad300 = ad301 := (by injection e301)
            replace p301 := eq_true p301
            replace q301 := eq_true q301
            refine start_ (n := 12) (S := fun w' => w'.cell? ⟨gb296, 0, none⟩ = some (.int .i64 ((rd_T36 l0_1 x38_3).f0)) ∧ w'.cell? ⟨gb296, 1, none⟩ = some (.int .i64 ((rd_T36 l0_1 x38_3).f1)) ∧ w'.cell? ⟨gb296, 2, none⟩ = some (.int .i64 ((rd_T36 l0_1 x38_3).f2)) ∧ w'.cell? ⟨gb296, 3, none⟩ = some (.int .i64 ((rd_T36 l0_1 x38_3).f3)) ∧ w'.cell? ⟨gb296, 4, none⟩ = some (.int .i64 ((rd_T36 l0_1 x38_3).f4)) ∧ w'.cell? (ad300.add (x52_5).toNat) = some (.int .i64 (rd x7_3 x52_5))) (ds := []) (bm_ 12 0) (by kernel_rfl) rfl rfl ⟨ct_ BK296.out 0, ct_ BK296.out 1, ct_ BK296.out 2, ct_ BK296.out 3, ct_ BK296.out 4, hx301_0⟩ (fun hHeld => ?_); refine with_tabW impl_TurnAll.tab18 impl_TurnAll.bits18 (fun HT_ HW_ => ?_)
            generalize w52.drew = w57 at HO_7 BK283 BK296 BK298 HB hx301_0 hHeld ⊢
            refine pu_ 0 77 (bm_ 12 1) HT_.out ?_
            refine pu_ 1 78 (bm_ 12 3) HT_.out ?_
            refine pu_ 2 79 (bm_ 12 7) HT_.out ?_
            refine pu_ 3 80 (bm_ 12 15) HT_.out ?_
            refine pu_ 5 82 (bm_ 12 47) HT_.out ?_
            refine pu_ 7 84 (bm_ 12 175) HT_.out ?_
            refine tk_ 4 81 (bm_ 12 191) HT_.out HW_.out hHeld ?_
            refine pu_ 6 83 (bm_ 12 255) HT_.out ?_
            refine tk_ 8 85 (bm_ 12 511) HT_.out HW_.out hHeld ?_
            refine pu_ 9 86 (bm_ 12 1023) HT_.out ?_
            refine pu_ 10 87 (bm_ 12 2047) HT_.out ?_
            refine pu_ 11 11 (bm_ 12 4095) HT_.out ?_
            refine done_ (done_of HT_.out (by kernel_rfl)) ?_
            try go_wp2
            go_roundg k5
            case measure => have := HJ3.out; have := HK2.out; have := HK3.out; have := HJ29.out; have := HK5.out; omega
            case rel => exact ⟨(ji47), (wrap64 (x52_5 + 1)), (by first | rfl | (simp; done) | (simp only [← hji47] <;> (first | rfl | simp)) | (simp [*]; done) | (simp [*]; exact Option.some.inj (Eq.trans (Eq.symm (Aside0.out (by assumption))) (Aside0.out (by assumption))))), ns_, H', ⟨by have := HJ3.out; have := HK2.out; have := HK3.out; have := HJ29.out; have := HK5.out; omega⟩, ⟨nr_ HO_7.out⟩, ⟨nb_ BK283.out⟩, ⟨nb_ BK296.out⟩, ⟨ne_ HB.out⟩⟩
end Go.Proofs.Ytfijdkjibjdbiaa.Print
