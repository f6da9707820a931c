-- Made by this session's own program (wip/patch_print.py, over the kit's print). Lean checks it.
import Derived.Test.YtfijdkjibjdbiaaPrint0
import Derived.Test.YtfijdkjibjdbiaaPrintF10
import Derived.Test.YtfijdkjibjdbiaaPrintF4
import Derived.Test.YtfijdkjibjdbiaaPrintF5
import Derived.Test.YtfijdkjibjdbiaaPrintF6
import Derived.Test.YtfijdkjibjdbiaaPrintF7
import Derived.Test.YtfijdkjibjdbiaaPrintF8
import Derived.Test.YtfijdkjibjdbiaaPrintF9
namespace Go.Proofs.Ytfijdkjibjdbiaa.Print
open Go.RowKit Go.Proofs.YtfijdkjibjdbiaaW.PrintWords Go.Proofs.YtfijdkjibjdbiaaW.PrintLast Go.Proofs.YtfijdkjibjdbiaaW.PrintMore Go.Proofs.YtfijdkjibjdbiaaX
attribute [local go_sem] max2_int min2_int max_two min_two max_three min_three max_four min_four   -- for this text's walks alone
set_option linter.unusedVariables false
set_option linter.unusedSimpArgs false

abbrev rA3 := @Kd.R_alloc
abbrev rN3 := @Kd.R_drewN
abbrev rD3 := @Kd.R_drew
abbrev rB3 := @Kd.R_below
abbrev rR3 := @Kd.R_reads'
/-! ### laws_FnTurnNet: function 3 -/
mutual
def laws_FnTurnNet.j0 : Nat → List (S60) → Bool → Bool → Bool → Int → List (S36) → Int → List (S36) → Int → List (S36) → Option (Bool)
  | 0, _, _, _, _, _, _, _, _, _, _ => none
  | k + 1, x4, x6, x8, x48, x385000, x385001, x391000, x391001, x397000, x397001 => if x48 = true then (if (x6 == x8) = true then ((laws_wkNet.f k x391000 x391001 x397000 x397001).bind fun t398 => (some t398)) else (some false)) else (laws_FnTurnNet.l0 k x4 0 x385000 x385001 x391000 x391001)
def laws_FnTurnNet.l0 : Nat → List (S60) → Int → Int → List (S36) → Int → List (S36) → Option (Bool)
  | 0, _, _, _, _, _, _ => none
  | k + 1, x4, x9, x385000, x385001, x391000, x391001 => if x9 < x385000 then ((impl_TurnAll.f k x385000 x385001 x4 x9).bind fun t400 => (laws_FnTurnNet.l1 k x4 x9 t400 0 x385000 x385001 x391000 x391001)) else ((impl_NetOk.f x391000 x391001).bind fun t399 => (if t399 = true then (some (x391000 == (x385001.length : Int))) else (some false)))
def laws_FnTurnNet.l1 : Nat → List (S60) → Int → List Int → Int → Int → List (S36) → Int → List (S36) → Option (Bool)
  | 0, _, _, _, _, _, _, _, _ => none
  | k + 1, x4, x9, x10, x11, x385000, x385001, x391000, x391001 => if x11 < x385000 then (if x11 = x9 then (laws_FnTurnNet.j3 k x4 x9 x10 x11 0 x385000 x385001 x391000 x391001) else (laws_FnTurnNet.j3 k x4 x9 x10 x11 99999 x385000 x385001 x391000 x391001)) else (laws_FnTurnNet.l0 k x4 (wrap64 (x9 + 1)) x385000 x385001 x391000 x391001)
def laws_FnTurnNet.j3 : Nat → List (S60) → Int → List Int → Int → Int → Int → List (S36) → Int → List (S36) → Option (Bool)
  | 0, _, _, _, _, _, _, _, _, _ => none
  | k + 1, x4, x9, x10, x11, x12, x385000, x385001, x391000, x391001 => laws_FnTurnNet.l2 k x4 x9 x10 x11 x12 0 x385000 x385001 x391000 x391001
def laws_FnTurnNet.l2 : Nat → List (S60) → Int → List Int → Int → Int → Int → Int → List (S36) → Int → List (S36) → Option (Bool)
  | 0, _, _, _, _, _, _, _, _, _, _ => none
  | k + 1, x4, x9, x10, x11, x12, x13, x385000, x385001, x391000, x391001 => if x13 < (x385001.length : Int) then ((impl_NearAll.f k x391000 x391001 x13).bind fun t404 => (laws_FnTurnNet.l3 k x4 x9 x10 x11 x12 x13 t404 0 x385000 x385001 x391000 x391001)) else (if 0 ≤ x11 then (if x11 < (x10.length : Int) then (if x12 = (rd x10 x11) then (laws_FnTurnNet.l1 k x4 x9 x10 (wrap64 (x11 + 1)) x385000 x385001 x391000 x391001) else (some false)) else (none)) else (none))
def laws_FnTurnNet.l3 : Nat → List (S60) → Int → List Int → Int → Int → Int → List Int → Int → Int → List (S36) → Int → List (S36) → Option (Bool)
  | 0, _, _, _, _, _, _, _, _, _, _, _, _ => none
  | k + 1, x4, x9, x10, x11, x12, x13, x14, x15, x385000, x385001, x391000, x391001 => if x15 < (x385001.length : Int) then (if 0 ≤ x13 then (if x13 < (x385001.length : Int) then (if ((rd_T36 x385001 x13).f0) = x9 then (if 0 ≤ x15 then (if ((rd_T36 x385001 x15).f1) = x11 then (if x15 < (x14.length : Int) then (if (rd x14 x15) < 99999 then (if (wrap64 (((rd_T36 x385001 x13).f2) + (rd x14 x15))) < x12 then (laws_FnTurnNet.l3 k x4 x9 x10 x11 (wrap64 (((rd_T36 x385001 x13).f2) + (rd x14 x15))) x13 x14 (wrap64 (x15 + 1)) x385000 x385001 x391000 x391001) else (laws_FnTurnNet.l3 k x4 x9 x10 x11 x12 x13 x14 (wrap64 (x15 + 1)) x385000 x385001 x391000 x391001)) else (laws_FnTurnNet.l3 k x4 x9 x10 x11 x12 x13 x14 (wrap64 (x15 + 1)) x385000 x385001 x391000 x391001)) else (none)) else (laws_FnTurnNet.l3 k x4 x9 x10 x11 x12 x13 x14 (wrap64 (x15 + 1)) x385000 x385001 x391000 x391001)) else (none)) else (laws_FnTurnNet.l3 k x4 x9 x10 x11 x12 x13 x14 (wrap64 (x15 + 1)) x385000 x385001 x391000 x391001)) else (none)) else (none)) else (laws_FnTurnNet.l2 k x4 x9 x10 x11 x12 (wrap64 (x13 + 1)) x385000 x385001 x391000 x391001)
end
def laws_FnTurnNet.f (k : Nat) (l0 : List Int) : Option (Bool) := if (l0.length : Int) > 1048576 then (some true) else ((spec_DrawTurnNet.f k l0).bind fun bt377 => ((impl_TurnNet.f k bt377.1 bt377.2.1 bt377.2.2).bind fun bt385 => ((spec_TurnNet.f k bt377.1 bt377.2.1 bt377.2.2).bind fun bt391 => (if (bt385.2.2 != bt391.2.2) = true then (laws_FnTurnNet.j0 k bt377.2.2 bt385.2.2 bt391.2.2 true bt377.1 bt377.2.1 bt385.1 bt385.2.1 bt391.1 bt391.2.1) else ((laws_wkNet.f k bt385.1 bt385.2.1 bt391.1 bt391.2.1).bind fun t397 => (if t397 = true then (laws_FnTurnNet.j0 k bt377.2.2 bt385.2.2 bt391.2.2 (!bt385.2.2) bt377.1 bt377.2.1 bt385.1 bt385.2.1 bt391.1 bt391.2.1) else (laws_FnTurnNet.j0 k bt377.2.2 bt385.2.2 bt391.2.2 true bt377.1 bt377.2.1 bt385.1 bt385.2.1 bt391.1 bt391.2.1)))))))
theorem laws_FnTurnNet.mono_l : ∀ k, (∀ y0 y1 y2 y3 y4 y5 y6 y7 y8 y9, LeO (laws_FnTurnNet.j0 k y0 y1 y2 y3 y4 y5 y6 y7 y8 y9) (laws_FnTurnNet.j0 (k + 1) y0 y1 y2 y3 y4 y5 y6 y7 y8 y9)) ∧ (∀ y0 y1 y2 y3 y4 y5, LeO (laws_FnTurnNet.l0 k y0 y1 y2 y3 y4 y5) (laws_FnTurnNet.l0 (k + 1) y0 y1 y2 y3 y4 y5)) ∧ (∀ y0 y1 y2 y3 y4 y5 y6 y7, LeO (laws_FnTurnNet.l1 k y0 y1 y2 y3 y4 y5 y6 y7) (laws_FnTurnNet.l1 (k + 1) y0 y1 y2 y3 y4 y5 y6 y7)) ∧ (∀ y0 y1 y2 y3 y4 y5 y6 y7 y8, LeO (laws_FnTurnNet.j3 k y0 y1 y2 y3 y4 y5 y6 y7 y8) (laws_FnTurnNet.j3 (k + 1) y0 y1 y2 y3 y4 y5 y6 y7 y8)) ∧ (∀ y0 y1 y2 y3 y4 y5 y6 y7 y8 y9, LeO (laws_FnTurnNet.l2 k y0 y1 y2 y3 y4 y5 y6 y7 y8 y9) (laws_FnTurnNet.l2 (k + 1) y0 y1 y2 y3 y4 y5 y6 y7 y8 y9)) ∧ (∀ y0 y1 y2 y3 y4 y5 y6 y7 y8 y9 y10 y11, LeO (laws_FnTurnNet.l3 k y0 y1 y2 y3 y4 y5 y6 y7 y8 y9 y10 y11) (laws_FnTurnNet.l3 (k + 1) y0 y1 y2 y3 y4 y5 y6 y7 y8 y9 y10 y11))
  | 0 => ⟨fun _ _ _ _ _ _ _ _ _ _ r h => by simp [laws_FnTurnNet.j0] at h, fun _ _ _ _ _ _ r h => by simp [laws_FnTurnNet.l0] at h, fun _ _ _ _ _ _ _ _ r h => by simp [laws_FnTurnNet.l1] at h, fun _ _ _ _ _ _ _ _ _ r h => by simp [laws_FnTurnNet.j3] at h, fun _ _ _ _ _ _ _ _ _ _ r h => by simp [laws_FnTurnNet.l2] at h, fun _ _ _ _ _ _ _ _ _ _ _ _ r h => by simp [laws_FnTurnNet.l3] at h⟩
  | k + 1 => by
    obtain ⟨ih0, ih1, ih2, ih3, ih4, ih5⟩ := laws_FnTurnNet.mono_l k
    refine ⟨?_, ?_, ?_, ?_, ?_, ?_⟩
    · intro y0 y1 y2 y3 y4 y5 y6 y7 y8 y9
      unfold laws_FnTurnNet.j0
      repeat' first | (with_reducible first | exact ih0 _ _ _ _ _ _ _ _ _ _ | exact ih1 _ _ _ _ _ _ | exact ih2 _ _ _ _ _ _ _ _ | exact ih3 _ _ _ _ _ _ _ _ _ | exact ih4 _ _ _ _ _ _ _ _ _ _ | exact ih5 _ _ _ _ _ _ _ _ _ _ _ _ | exact impl_NearAll.mono _ _ _ _ | exact impl_TurnAll.mono _ _ _ _ _ | exact impl_TurnNet.mono _ _ _ _ | exact laws_wkNet.mono _ _ _ _ _ | exact spec_DrawTurnNet.mono _ _ | exact spec_TurnNet.mono _ _ _ _ | exact LeO.refl _ | exact LeO.none _ | refine LeO.ite ?_ ?_ | refine LeO.bind ?_ (fun _ => ?_)) | exact ih0 _ _ _ _ _ _ _ _ _ _ | exact ih1 _ _ _ _ _ _ | exact ih2 _ _ _ _ _ _ _ _ | exact ih3 _ _ _ _ _ _ _ _ _ | exact ih4 _ _ _ _ _ _ _ _ _ _ | exact ih5 _ _ _ _ _ _ _ _ _ _ _ _ | exact impl_NearAll.mono _ _ _ _ | exact impl_TurnAll.mono _ _ _ _ _ | exact impl_TurnNet.mono _ _ _ _ | exact laws_wkNet.mono _ _ _ _ _ | exact spec_DrawTurnNet.mono _ _ | exact spec_TurnNet.mono _ _ _ _ | exact LeO.none _ | refine LeO.ite ?_ ?_ | refine LeO.bind ?_ (fun _ => ?_)
    · intro y0 y1 y2 y3 y4 y5
      unfold laws_FnTurnNet.l0
      repeat' first | (with_reducible first | exact ih0 _ _ _ _ _ _ _ _ _ _ | exact ih1 _ _ _ _ _ _ | exact ih2 _ _ _ _ _ _ _ _ | exact ih3 _ _ _ _ _ _ _ _ _ | exact ih4 _ _ _ _ _ _ _ _ _ _ | exact ih5 _ _ _ _ _ _ _ _ _ _ _ _ | exact impl_NearAll.mono _ _ _ _ | exact impl_TurnAll.mono _ _ _ _ _ | exact impl_TurnNet.mono _ _ _ _ | exact laws_wkNet.mono _ _ _ _ _ | exact spec_DrawTurnNet.mono _ _ | exact spec_TurnNet.mono _ _ _ _ | exact LeO.refl _ | exact LeO.none _ | refine LeO.ite ?_ ?_ | refine LeO.bind ?_ (fun _ => ?_)) | exact ih0 _ _ _ _ _ _ _ _ _ _ | exact ih1 _ _ _ _ _ _ | exact ih2 _ _ _ _ _ _ _ _ | exact ih3 _ _ _ _ _ _ _ _ _ | exact ih4 _ _ _ _ _ _ _ _ _ _ | exact ih5 _ _ _ _ _ _ _ _ _ _ _ _ | exact impl_NearAll.mono _ _ _ _ | exact impl_TurnAll.mono _ _ _ _ _ | exact impl_TurnNet.mono _ _ _ _ | exact laws_wkNet.mono _ _ _ _ _ | exact spec_DrawTurnNet.mono _ _ | exact spec_TurnNet.mono _ _ _ _ | exact LeO.none _ | refine LeO.ite ?_ ?_ | refine LeO.bind ?_ (fun _ => ?_)
    · intro y0 y1 y2 y3 y4 y5 y6 y7
      unfold laws_FnTurnNet.l1
      repeat' first | (with_reducible first | exact ih0 _ _ _ _ _ _ _ _ _ _ | exact ih1 _ _ _ _ _ _ | exact ih2 _ _ _ _ _ _ _ _ | exact ih3 _ _ _ _ _ _ _ _ _ | exact ih4 _ _ _ _ _ _ _ _ _ _ | exact ih5 _ _ _ _ _ _ _ _ _ _ _ _ | exact impl_NearAll.mono _ _ _ _ | exact impl_TurnAll.mono _ _ _ _ _ | exact impl_TurnNet.mono _ _ _ _ | exact laws_wkNet.mono _ _ _ _ _ | exact spec_DrawTurnNet.mono _ _ | exact spec_TurnNet.mono _ _ _ _ | exact LeO.refl _ | exact LeO.none _ | refine LeO.ite ?_ ?_ | refine LeO.bind ?_ (fun _ => ?_)) | exact ih0 _ _ _ _ _ _ _ _ _ _ | exact ih1 _ _ _ _ _ _ | exact ih2 _ _ _ _ _ _ _ _ | exact ih3 _ _ _ _ _ _ _ _ _ | exact ih4 _ _ _ _ _ _ _ _ _ _ | exact ih5 _ _ _ _ _ _ _ _ _ _ _ _ | exact impl_NearAll.mono _ _ _ _ | exact impl_TurnAll.mono _ _ _ _ _ | exact impl_TurnNet.mono _ _ _ _ | exact laws_wkNet.mono _ _ _ _ _ | exact spec_DrawTurnNet.mono _ _ | exact spec_TurnNet.mono _ _ _ _ | exact LeO.none _ | refine LeO.ite ?_ ?_ | refine LeO.bind ?_ (fun _ => ?_)
    · intro y0 y1 y2 y3 y4 y5 y6 y7 y8
      unfold laws_FnTurnNet.j3
      repeat' first | (with_reducible first | exact ih0 _ _ _ _ _ _ _ _ _ _ | exact ih1 _ _ _ _ _ _ | exact ih2 _ _ _ _ _ _ _ _ | exact ih3 _ _ _ _ _ _ _ _ _ | exact ih4 _ _ _ _ _ _ _ _ _ _ | exact ih5 _ _ _ _ _ _ _ _ _ _ _ _ | exact impl_NearAll.mono _ _ _ _ | exact impl_TurnAll.mono _ _ _ _ _ | exact impl_TurnNet.mono _ _ _ _ | exact laws_wkNet.mono _ _ _ _ _ | exact spec_DrawTurnNet.mono _ _ | exact spec_TurnNet.mono _ _ _ _ | exact LeO.refl _ | exact LeO.none _ | refine LeO.ite ?_ ?_ | refine LeO.bind ?_ (fun _ => ?_)) | exact ih0 _ _ _ _ _ _ _ _ _ _ | exact ih1 _ _ _ _ _ _ | exact ih2 _ _ _ _ _ _ _ _ | exact ih3 _ _ _ _ _ _ _ _ _ | exact ih4 _ _ _ _ _ _ _ _ _ _ | exact ih5 _ _ _ _ _ _ _ _ _ _ _ _ | exact impl_NearAll.mono _ _ _ _ | exact impl_TurnAll.mono _ _ _ _ _ | exact impl_TurnNet.mono _ _ _ _ | exact laws_wkNet.mono _ _ _ _ _ | exact spec_DrawTurnNet.mono _ _ | exact spec_TurnNet.mono _ _ _ _ | exact LeO.none _ | refine LeO.ite ?_ ?_ | refine LeO.bind ?_ (fun _ => ?_)
    · intro y0 y1 y2 y3 y4 y5 y6 y7 y8 y9
      unfold laws_FnTurnNet.l2
      repeat' first | (with_reducible first | exact ih0 _ _ _ _ _ _ _ _ _ _ | exact ih1 _ _ _ _ _ _ | exact ih2 _ _ _ _ _ _ _ _ | exact ih3 _ _ _ _ _ _ _ _ _ | exact ih4 _ _ _ _ _ _ _ _ _ _ | exact ih5 _ _ _ _ _ _ _ _ _ _ _ _ | exact impl_NearAll.mono _ _ _ _ | exact impl_TurnAll.mono _ _ _ _ _ | exact impl_TurnNet.mono _ _ _ _ | exact laws_wkNet.mono _ _ _ _ _ | exact spec_DrawTurnNet.mono _ _ | exact spec_TurnNet.mono _ _ _ _ | exact LeO.refl _ | exact LeO.none _ | refine LeO.ite ?_ ?_ | refine LeO.bind ?_ (fun _ => ?_)) | exact ih0 _ _ _ _ _ _ _ _ _ _ | exact ih1 _ _ _ _ _ _ | exact ih2 _ _ _ _ _ _ _ _ | exact ih3 _ _ _ _ _ _ _ _ _ | exact ih4 _ _ _ _ _ _ _ _ _ _ | exact ih5 _ _ _ _ _ _ _ _ _ _ _ _ | exact impl_NearAll.mono _ _ _ _ | exact impl_TurnAll.mono _ _ _ _ _ | exact impl_TurnNet.mono _ _ _ _ | exact laws_wkNet.mono _ _ _ _ _ | exact spec_DrawTurnNet.mono _ _ | exact spec_TurnNet.mono _ _ _ _ | exact LeO.none _ | refine LeO.ite ?_ ?_ | refine LeO.bind ?_ (fun _ => ?_)
    · intro y0 y1 y2 y3 y4 y5 y6 y7 y8 y9 y10 y11
      unfold laws_FnTurnNet.l3
      repeat' first | (with_reducible first | exact ih0 _ _ _ _ _ _ _ _ _ _ | exact ih1 _ _ _ _ _ _ | exact ih2 _ _ _ _ _ _ _ _ | exact ih3 _ _ _ _ _ _ _ _ _ | exact ih4 _ _ _ _ _ _ _ _ _ _ | exact ih5 _ _ _ _ _ _ _ _ _ _ _ _ | exact impl_NearAll.mono _ _ _ _ | exact impl_TurnAll.mono _ _ _ _ _ | exact impl_TurnNet.mono _ _ _ _ | exact laws_wkNet.mono _ _ _ _ _ | exact spec_DrawTurnNet.mono _ _ | exact spec_TurnNet.mono _ _ _ _ | exact LeO.refl _ | exact LeO.none _ | refine LeO.ite ?_ ?_ | refine LeO.bind ?_ (fun _ => ?_)) | exact ih0 _ _ _ _ _ _ _ _ _ _ | exact ih1 _ _ _ _ _ _ | exact ih2 _ _ _ _ _ _ _ _ | exact ih3 _ _ _ _ _ _ _ _ _ | exact ih4 _ _ _ _ _ _ _ _ _ _ | exact ih5 _ _ _ _ _ _ _ _ _ _ _ _ | exact impl_NearAll.mono _ _ _ _ | exact impl_TurnAll.mono _ _ _ _ _ | exact impl_TurnNet.mono _ _ _ _ | exact laws_wkNet.mono _ _ _ _ _ | exact spec_DrawTurnNet.mono _ _ | exact spec_TurnNet.mono _ _ _ _ | exact LeO.none _ | refine LeO.ite ?_ ?_ | refine LeO.bind ?_ (fun _ => ?_)
theorem laws_FnTurnNet.mono : ∀ a0 k, LeO (laws_FnTurnNet.f k a0) (laws_FnTurnNet.f (k + 1) a0) := by
  intro a0 k
  obtain ⟨ih0, ih1, ih2, ih3, ih4, ih5⟩ := laws_FnTurnNet.mono_l k
  unfold laws_FnTurnNet.f
  repeat' first | (with_reducible first | exact ih0 _ _ _ _ _ _ _ _ _ _ | exact ih1 _ _ _ _ _ _ | exact ih2 _ _ _ _ _ _ _ _ | exact ih3 _ _ _ _ _ _ _ _ _ | exact ih4 _ _ _ _ _ _ _ _ _ _ | exact ih5 _ _ _ _ _ _ _ _ _ _ _ _ | exact impl_NearAll.mono _ _ _ _ | exact impl_TurnAll.mono _ _ _ _ _ | exact impl_TurnNet.mono _ _ _ _ | exact laws_wkNet.mono _ _ _ _ _ | exact spec_DrawTurnNet.mono _ _ | exact spec_TurnNet.mono _ _ _ _ | exact LeO.refl _ | exact LeO.none _ | refine LeO.ite ?_ ?_ | refine LeO.bind ?_ (fun _ => ?_)) | exact ih0 _ _ _ _ _ _ _ _ _ _ | exact ih1 _ _ _ _ _ _ | exact ih2 _ _ _ _ _ _ _ _ | exact ih3 _ _ _ _ _ _ _ _ _ | exact ih4 _ _ _ _ _ _ _ _ _ _ | exact ih5 _ _ _ _ _ _ _ _ _ _ _ _ | exact impl_NearAll.mono _ _ _ _ | exact impl_TurnAll.mono _ _ _ _ _ | exact impl_TurnNet.mono _ _ _ _ | exact laws_wkNet.mono _ _ _ _ _ | exact spec_DrawTurnNet.mono _ _ | exact spec_TurnNet.mono _ _ _ _ | exact LeO.none _ | refine LeO.ite ?_ ?_ | refine LeO.bind ?_ (fun _ => ?_)
set_option maxHeartbeats 200000000 in
set_option maxRecDepth 100000 in
theorem laws_FnTurnNet.calls (k : Nat) (A0 : Option Addr) (c0 : Nat) (l0 : List Int) (r : Bool) (w : World) (hr0 : Kd.C (Kd.int .u8) w A0 l0.length l0) (hc0 : l0.length ≤ c0) (h : laws_FnTurnNet.f k l0 = some r) :
    Calls Try.prog 3 #[.slice A0 l0.length c0] w fun e w' => e = .returned (.bool r) ∧ Below w.heap.size w w' := by
  have hu25 := Try.underlying25
  have HR0 := Aside0.mk hr0
  have HC0 := Aside0.mk hc0
  clear hr0 hc0
  have HB := Aside0.mk (Below.refl w.heap.size w)
  have H : (if (l0.length : Int) > 1048576 then (some true) else ((spec_DrawTurnNet.f k l0).bind fun bt377 => ((impl_TurnNet.f k bt377.1 bt377.2.1 bt377.2.2).bind fun bt385 => ((spec_TurnNet.f k bt377.1 bt377.2.1 bt377.2.2).bind fun bt391 => (if (bt385.2.2 != bt391.2.2) = true then (laws_FnTurnNet.j0 k bt377.2.2 bt385.2.2 bt391.2.2 true bt377.1 bt377.2.1 bt385.1 bt385.2.1 bt391.1 bt391.2.1) else ((laws_wkNet.f k bt385.1 bt385.2.1 bt391.1 bt391.2.1).bind fun t397 => (if t397 = true then (laws_FnTurnNet.j0 k bt377.2.2 bt385.2.2 bt391.2.2 (!bt385.2.2) bt377.1 bt377.2.1 bt385.1 bt385.2.1 bt391.1 bt391.2.1) else (laws_FnTurnNet.j0 k bt377.2.2 bt385.2.2 bt391.2.2 true bt377.1 bt377.2.1 bt385.1 bt385.2.1 bt391.1 bt391.2.1)))))))) = some r := h
  clear h
  by_cases c2 : (l0.length : Int) > 1048576
  ·rw [if_pos c2] at H
   have c2b0 : decide (1048576 < (l0.length : Int)) = true := decide_eq_true c2
   have c2b1 : decide (1048576 < l0.length) = true := decide_eq_true (by omega)
   clear c2
   obtain rfl := Option.some.inj H
   go_enter Try.func3, Try.ntmps3
   go_wp2
   repeat (go_quiet (fail); try go_wp2)
   go_ret
   exact ⟨nw_, ne_ HB.out⟩
  rw [if_neg c2] at H
  have c2b0 : decide (1048576 < (l0.length : Int)) = false := decide_eq_false c2
  have c2b1 : decide (1048576 < l0.length) = false := decide_eq_false (by omega)
  clear c2
  replace H := Option.bind_eq_some_iff.mp H
  obtain ⟨⟨t377, t378, t381⟩, A30, H⟩ := H
  try dsimp only at H
  have A3 := Aside0.mk A30
  clear A30
  replace H := Option.bind_eq_some_iff.mp H
  obtain ⟨⟨t385, t386, t389⟩, A40, H⟩ := H
  try dsimp only at H
  have A4 := Aside0.mk A40
  clear A40
  replace H := Option.bind_eq_some_iff.mp H
  obtain ⟨⟨t391, t392, t395⟩, A50, H⟩ := H
  try dsimp only at H
  have A5 := Aside0.mk A50
  clear A50
  have HC6 := Aside0.mk H
  clear H
  go_enter Try.func3, Try.ntmps3
  go_upto_region 6 with (first | (go_at_call 4; (with_reducible refine (spec_DrawTurnNet.calls k _ _ l0 t377 t378 t381 _ ?side1 ?side2 A3.out).mono ?_); (case side1 => repeat (first | exact HR0.out | (with_reducible refine Kd.C_alloc ?_ _) | (with_reducible refine Kd.C_drewN ?_ _) | (with_reducible refine Kd.C_drew ?_))); (case side2 => exact HC0.out); rintro e w7 ⟨v379, v382, rfl, ho0, ho1, hb⟩; have HO380 := Aside0.mk (Kd.R_lower ho0 (below_size (ne_ HB.out))); have HO383 := Aside0.mk (Kd.R_lower ho1 (below_size (ne_ HB.out))); replace HB := kB_ HB hb; (try clear hb); (try clear hb2); (try clear hk); (try clear hi); (try clear ho0); (try clear ho1)) | ((with_reducible refine gate_dst (N := 3) rfl ?_); (try (refine gate_guard (by rfl) ?_; dsimp only)); refine bx_ 3 #[.int .i64 0, .slice none 0 0] 25 ?_; intro gb384 hg w8 hbox hb; have BK384 := Aside0.mk (hbox); have GW384 := Aside0.mk (zs_ hg (ne_ HB.out)); have GE384 := Aside0.mk (zs_ hg (ne_ HB.out)); replace HO380 := kR_ HO380 hb; replace HO383 := kR_ HO383 hb; replace HB := kB_ HB hb; clear hb hbox hg; obtain ⟨hcz9_0, hcz9_1, hfz9_0, hfz9_1⟩ := cz2_ BK384.out; obtain ⟨Ao10, co10, eo10⟩ := Kd.R_slice HO380.out; subst eo10; obtain ⟨Ao11, co11, eo11⟩ := Kd.R_slice HO383.out; subst eo11) | (go_at_call 5; (with_reducible refine (impl_TurnNet.calls k t377 _ _ t378 _ _ t381 t385 t386 t389 _ ?side1 ?side2 ?side3 ?side4 A4.out).mono ?_); (case side1 => refine (rR3 (e := 36) (base := w.heap.size) (ok := fun k_ => True) (n := t378.length) (c := co10) ?_).2.2; exact (by (with_reducible repeat (first | apply rA3 | apply rN3 | apply rD3)); exact (Kd.R_mono (rf2_ (Kd.R_types HO380.out BK384.out (by decide))) (fun _ h_ => h_.1)))); (case side2 => exact (rR3 HO380.out).2.1); (case side3 => refine (rR3 (e := 60) (base := w.heap.size) (ok := fun k_ => True) (n := t381.length) (c := co11) ?_).2.2; exact (by (with_reducible repeat (first | apply rA3 | apply rN3 | apply rD3)); exact (Kd.R_mono (rf2_ (Kd.R_types HO383.out BK384.out (by decide))) (fun _ h_ => h_.1)))); (case side4 => exact (rR3 HO383.out).2.1); rintro e w12 ⟨v387, rfl, ho0, hb⟩; have HO388 := Aside0.mk (Kd.R_lower (Kd.R_new' ho0 (Kd.R_lt (by (with_reducible repeat (first | apply rA3 | apply rN3 | apply rD3)); exact (Kd.R_mono (rf2_ (Kd.R_types HO380.out BK384.out (by decide))) (fun _ h_ => h_.1))))) (below_size (ne_ HB.out))); replace HO380 := Aside0.mk (Kd.R_elder' (by (with_reducible repeat (first | apply rA3 | apply rN3 | apply rD3)); exact (Kd.R_mono (rf2_ (Kd.R_types HO380.out BK384.out (by decide))) (fun _ h_ => h_.1))) (Kd.R_base ho0) hb); replace HO383 := Aside0.mk (rB3 (by (with_reducible repeat (first | apply rA3 | apply rN3 | apply rD3)); exact (Kd.R_mono (rf2_ (Kd.R_types HO383.out BK384.out (by decide))) (fun _ h_ => h_.1))) hb); replace BK384 := Aside0.mk (blk_below (g := gb384) (o := .cells #[.int .i64 t377, .slice Ao10 t378.length co10] 25 (0, 0)) (np_ BK384.out) hb); replace HB := kB_ HB hb; (try clear hb); (try clear hb2); (try clear hk); (try clear hi); (try clear ho0)) | ((with_reducible refine gate_dst (N := 5) rfl ?_); (try (refine gate_guard (by rfl) ?_; dsimp only)); refine bx_ 5 #[.int .i64 0, .slice none 0 0] 25 ?_; intro gb390 hg w13 hbox hb; have BK390 := Aside0.mk (hbox); have GW390 := Aside0.mk (zs_ hg (ne_ HB.out)); have GE390 := Aside0.mk (zs_ hg (ne_ HB.out)); have NB384_390 := Aside0.mk (nl_ BK384.out hg); have NB390_384 := Aside0.mk (nm_ BK384.out hg); replace HO380 := kR_ HO380 hb; replace HO383 := kR_ HO383 hb; replace HO388 := kR_ HO388 hb; replace BK384 := kb_ BK384 hb; replace HB := kB_ HB hb; clear hb hbox hg; have hnb14 := NB390_384.out; have hnc14 := NB384_390.out; obtain ⟨hcz15_0, hcz15_1, hfz15_0, hfz15_1⟩ := cz2_ BK390.out; obtain ⟨Ao16, co16, eo16⟩ := Kd.R_slice HO388.out; subst eo16; obtain ⟨hcz17_0, hcz17_1, hfz17_0, hfz17_1⟩ := cz2_ BK384.out) | (go_at_call 6; (with_reducible refine (spec_TurnNet.calls k t377 _ _ t378 _ _ t381 t391 t392 t395 _ ?side1 ?side2 ?side3 ?side4 A5.out).mono ?_); (case side1 => refine (rR3 (e := 36) (base := w.heap.size) (ok := fun k_ => (True ∧ some k_ ≠ (.slice Ao16 t386.length co16 : Value).ownBlock)) (n := t378.length) (c := co10) ?_).2.2; exact (by (with_reducible repeat (first | apply rA3 | apply rN3 | apply rD3)); exact (Kd.R_mono (rf2_ (Kd.R_types HO380.out BK390.out (by decide))) (fun _ h_ => h_.1)))); (case side2 => exact (rR3 HO380.out).2.1); (case side3 => refine (rR3 (e := 60) (base := w.heap.size) (ok := fun k_ => True) (n := t381.length) (c := co11) ?_).2.2; exact (by (with_reducible repeat (first | apply rA3 | apply rN3 | apply rD3)); exact (Kd.R_mono (rf2_ (Kd.R_types HO383.out BK390.out (by decide))) (fun _ h_ => h_.1)))); (case side4 => exact (rR3 HO383.out).2.1); rintro e w18 ⟨v393, rfl, ho0, hb⟩; have HO394 := Aside0.mk (Kd.R_lower (Kd.R_new' (Kd.R_new' ho0 (Kd.R_lt (by (with_reducible repeat (first | apply rA3 | apply rN3 | apply rD3)); exact (Kd.R_mono (rf2_ (Kd.R_types HO380.out BK390.out (by decide))) (fun _ h_ => h_.1))))) (Kd.R_lt (by (with_reducible repeat (first | apply rA3 | apply rN3 | apply rD3)); exact (Kd.R_mono (rf2_ (Kd.R_types HO388.out BK390.out (by decide))) (fun _ h_ => h_.1))))) (below_size (ne_ HB.out))); replace HO380 := Aside0.mk (Kd.R_elder' (by (with_reducible repeat (first | apply rA3 | apply rN3 | apply rD3)); exact (Kd.R_mono (rf2_ (Kd.R_types HO380.out BK390.out (by decide))) (fun _ h_ => h_.1))) (Kd.R_base ho0) hb); replace HO383 := Aside0.mk (rB3 (by (with_reducible repeat (first | apply rA3 | apply rN3 | apply rD3)); exact (Kd.R_mono (rf2_ (Kd.R_types HO383.out BK390.out (by decide))) (fun _ h_ => h_.1))) hb); replace HO388 := Aside0.mk (Kd.R_elder' (by (with_reducible repeat (first | apply rA3 | apply rN3 | apply rD3)); exact (Kd.R_mono (rf2_ (Kd.R_types HO388.out BK390.out (by decide))) (fun _ h_ => h_.1))) (Kd.R_base ho0) hb); replace BK384 := kf_ BK384 hb; replace BK390 := Aside0.mk (blk_below (g := gb390) (o := .cells #[.int .i64 t385, .slice Ao16 t386.length co16] 25 (0, 0)) (np_ BK390.out) hb); replace HB := kB_ HB hb; (try clear hb); (try clear hb2); (try clear hk); (try clear hi); (try clear ho0)) | ((with_reducible refine gate_dst (N := 7) rfl ?_); (try (refine gate_guard (by rfl) ?_; dsimp only)); refine bx_ 7 #[.int .i64 0, .slice none 0 0] 25 ?_; intro gb396 hg w19 hbox hb; have BK396 := Aside0.mk (hbox); have GW396 := Aside0.mk (zs_ hg (ne_ HB.out)); have GE396 := Aside0.mk (zs_ hg (ne_ HB.out)); have NB384_396 := Aside0.mk (nl_ BK384.out hg); have NB396_384 := Aside0.mk (nm_ BK384.out hg); have NB390_396 := Aside0.mk (nl_ BK390.out hg); have NB396_390 := Aside0.mk (nm_ BK390.out hg); replace HO380 := kR_ HO380 hb; replace HO383 := kR_ HO383 hb; replace HO388 := kR_ HO388 hb; replace HO394 := kR_ HO394 hb; replace BK384 := kb_ BK384 hb; replace BK390 := kb_ BK390 hb; replace HB := kB_ HB hb; clear hb hbox hg; have hnb20 := NB396_384.out; have hnc20 := NB384_396.out; have hnb21 := NB396_390.out; have hnc21 := NB390_396.out; obtain ⟨hcz22_0, hcz22_1, hfz22_0, hfz22_1⟩ := cz2_ BK396.out; obtain ⟨Ao23, co23, eo23⟩ := Kd.R_slice HO394.out; subst eo23))
  repeat (go_quiet (first | (go_at_call 4; (with_reducible refine (spec_DrawTurnNet.calls k _ _ l0 t377 t378 t381 _ ?side1 ?side2 A3.out).mono ?_); (case side1 => repeat (first | exact HR0.out | (with_reducible refine Kd.C_alloc ?_ _) | (with_reducible refine Kd.C_drewN ?_ _) | (with_reducible refine Kd.C_drew ?_))); (case side2 => exact HC0.out); rintro e w7 ⟨v379, v382, rfl, ho0, ho1, hb⟩; have HO380 := Aside0.mk (Kd.R_lower ho0 (below_size (ne_ HB.out))); have HO383 := Aside0.mk (Kd.R_lower ho1 (below_size (ne_ HB.out))); replace HB := kB_ HB hb; (try clear hb); (try clear hb2); (try clear hk); (try clear hi); (try clear ho0); (try clear ho1)) | ((with_reducible refine gate_dst (N := 3) rfl ?_); (try (refine gate_guard (by rfl) ?_; dsimp only)); refine bx_ 3 #[.int .i64 0, .slice none 0 0] 25 ?_; intro gb384 hg w8 hbox hb; have BK384 := Aside0.mk (hbox); have GW384 := Aside0.mk (zs_ hg (ne_ HB.out)); have GE384 := Aside0.mk (zs_ hg (ne_ HB.out)); replace HO380 := kR_ HO380 hb; replace HO383 := kR_ HO383 hb; replace HB := kB_ HB hb; clear hb hbox hg; obtain ⟨hcz9_0, hcz9_1, hfz9_0, hfz9_1⟩ := cz2_ BK384.out; obtain ⟨Ao10, co10, eo10⟩ := Kd.R_slice HO380.out; subst eo10; obtain ⟨Ao11, co11, eo11⟩ := Kd.R_slice HO383.out; subst eo11) | (go_at_call 5; (with_reducible refine (impl_TurnNet.calls k t377 _ _ t378 _ _ t381 t385 t386 t389 _ ?side1 ?side2 ?side3 ?side4 A4.out).mono ?_); (case side1 => refine (rR3 (e := 36) (base := w.heap.size) (ok := fun k_ => True) (n := t378.length) (c := co10) ?_).2.2; exact (by (with_reducible repeat (first | apply rA3 | apply rN3 | apply rD3)); exact (Kd.R_mono (rf2_ (Kd.R_types HO380.out BK384.out (by decide))) (fun _ h_ => h_.1)))); (case side2 => exact (rR3 HO380.out).2.1); (case side3 => refine (rR3 (e := 60) (base := w.heap.size) (ok := fun k_ => True) (n := t381.length) (c := co11) ?_).2.2; exact (by (with_reducible repeat (first | apply rA3 | apply rN3 | apply rD3)); exact (Kd.R_mono (rf2_ (Kd.R_types HO383.out BK384.out (by decide))) (fun _ h_ => h_.1)))); (case side4 => exact (rR3 HO383.out).2.1); rintro e w12 ⟨v387, rfl, ho0, hb⟩; have HO388 := Aside0.mk (Kd.R_lower (Kd.R_new' ho0 (Kd.R_lt (by (with_reducible repeat (first | apply rA3 | apply rN3 | apply rD3)); exact (Kd.R_mono (rf2_ (Kd.R_types HO380.out BK384.out (by decide))) (fun _ h_ => h_.1))))) (below_size (ne_ HB.out))); replace HO380 := Aside0.mk (Kd.R_elder' (by (with_reducible repeat (first | apply rA3 | apply rN3 | apply rD3)); exact (Kd.R_mono (rf2_ (Kd.R_types HO380.out BK384.out (by decide))) (fun _ h_ => h_.1))) (Kd.R_base ho0) hb); replace HO383 := Aside0.mk (rB3 (by (with_reducible repeat (first | apply rA3 | apply rN3 | apply rD3)); exact (Kd.R_mono (rf2_ (Kd.R_types HO383.out BK384.out (by decide))) (fun _ h_ => h_.1))) hb); replace BK384 := Aside0.mk (blk_below (g := gb384) (o := .cells #[.int .i64 t377, .slice Ao10 t378.length co10] 25 (0, 0)) (np_ BK384.out) hb); replace HB := kB_ HB hb; (try clear hb); (try clear hb2); (try clear hk); (try clear hi); (try clear ho0)) | ((with_reducible refine gate_dst (N := 5) rfl ?_); (try (refine gate_guard (by rfl) ?_; dsimp only)); refine bx_ 5 #[.int .i64 0, .slice none 0 0] 25 ?_; intro gb390 hg w13 hbox hb; have BK390 := Aside0.mk (hbox); have GW390 := Aside0.mk (zs_ hg (ne_ HB.out)); have GE390 := Aside0.mk (zs_ hg (ne_ HB.out)); have NB384_390 := Aside0.mk (nl_ BK384.out hg); have NB390_384 := Aside0.mk (nm_ BK384.out hg); replace HO380 := kR_ HO380 hb; replace HO383 := kR_ HO383 hb; replace HO388 := kR_ HO388 hb; replace BK384 := kb_ BK384 hb; replace HB := kB_ HB hb; clear hb hbox hg; have hnb14 := NB390_384.out; have hnc14 := NB384_390.out; obtain ⟨hcz15_0, hcz15_1, hfz15_0, hfz15_1⟩ := cz2_ BK390.out; obtain ⟨Ao16, co16, eo16⟩ := Kd.R_slice HO388.out; subst eo16; obtain ⟨hcz17_0, hcz17_1, hfz17_0, hfz17_1⟩ := cz2_ BK384.out) | (go_at_call 6; (with_reducible refine (spec_TurnNet.calls k t377 _ _ t378 _ _ t381 t391 t392 t395 _ ?side1 ?side2 ?side3 ?side4 A5.out).mono ?_); (case side1 => refine (rR3 (e := 36) (base := w.heap.size) (ok := fun k_ => (True ∧ some k_ ≠ (.slice Ao16 t386.length co16 : Value).ownBlock)) (n := t378.length) (c := co10) ?_).2.2; exact (by (with_reducible repeat (first | apply rA3 | apply rN3 | apply rD3)); exact (Kd.R_mono (rf2_ (Kd.R_types HO380.out BK390.out (by decide))) (fun _ h_ => h_.1)))); (case side2 => exact (rR3 HO380.out).2.1); (case side3 => refine (rR3 (e := 60) (base := w.heap.size) (ok := fun k_ => True) (n := t381.length) (c := co11) ?_).2.2; exact (by (with_reducible repeat (first | apply rA3 | apply rN3 | apply rD3)); exact (Kd.R_mono (rf2_ (Kd.R_types HO383.out BK390.out (by decide))) (fun _ h_ => h_.1)))); (case side4 => exact (rR3 HO383.out).2.1); rintro e w18 ⟨v393, rfl, ho0, hb⟩; have HO394 := Aside0.mk (Kd.R_lower (Kd.R_new' (Kd.R_new' ho0 (Kd.R_lt (by (with_reducible repeat (first | apply rA3 | apply rN3 | apply rD3)); exact (Kd.R_mono (rf2_ (Kd.R_types HO380.out BK390.out (by decide))) (fun _ h_ => h_.1))))) (Kd.R_lt (by (with_reducible repeat (first | apply rA3 | apply rN3 | apply rD3)); exact (Kd.R_mono (rf2_ (Kd.R_types HO388.out BK390.out (by decide))) (fun _ h_ => h_.1))))) (below_size (ne_ HB.out))); replace HO380 := Aside0.mk (Kd.R_elder' (by (with_reducible repeat (first | apply rA3 | apply rN3 | apply rD3)); exact (Kd.R_mono (rf2_ (Kd.R_types HO380.out BK390.out (by decide))) (fun _ h_ => h_.1))) (Kd.R_base ho0) hb); replace HO383 := Aside0.mk (rB3 (by (with_reducible repeat (first | apply rA3 | apply rN3 | apply rD3)); exact (Kd.R_mono (rf2_ (Kd.R_types HO383.out BK390.out (by decide))) (fun _ h_ => h_.1))) hb); replace HO388 := Aside0.mk (Kd.R_elder' (by (with_reducible repeat (first | apply rA3 | apply rN3 | apply rD3)); exact (Kd.R_mono (rf2_ (Kd.R_types HO388.out BK390.out (by decide))) (fun _ h_ => h_.1))) (Kd.R_base ho0) hb); replace BK384 := kf_ BK384 hb; replace BK390 := Aside0.mk (blk_below (g := gb390) (o := .cells #[.int .i64 t385, .slice Ao16 t386.length co16] 25 (0, 0)) (np_ BK390.out) hb); replace HB := kB_ HB hb; (try clear hb); (try clear hb2); (try clear hk); (try clear hi); (try clear ho0)) | ((with_reducible refine gate_dst (N := 7) rfl ?_); (try (refine gate_guard (by rfl) ?_; dsimp only)); refine bx_ 7 #[.int .i64 0, .slice none 0 0] 25 ?_; intro gb396 hg w19 hbox hb; have BK396 := Aside0.mk (hbox); have GW396 := Aside0.mk (zs_ hg (ne_ HB.out)); have GE396 := Aside0.mk (zs_ hg (ne_ HB.out)); have NB384_396 := Aside0.mk (nl_ BK384.out hg); have NB396_384 := Aside0.mk (nm_ BK384.out hg); have NB390_396 := Aside0.mk (nl_ BK390.out hg); have NB396_390 := Aside0.mk (nm_ BK390.out hg); replace HO380 := kR_ HO380 hb; replace HO383 := kR_ HO383 hb; replace HO388 := kR_ HO388 hb; replace HO394 := kR_ HO394 hb; replace BK384 := kb_ BK384 hb; replace BK390 := kb_ BK390 hb; replace HB := kB_ HB hb; clear hb hbox hg; have hnb20 := NB396_384.out; have hnc20 := NB384_396.out; have hnb21 := NB396_390.out; have hnc21 := NB390_396.out; obtain ⟨hcz22_0, hcz22_1, hfz22_0, hfz22_1⟩ := cz2_ BK396.out; obtain ⟨Ao23, co23, eo23⟩ := Kd.R_slice HO394.out; subst eo23)); go_upto_region 6 with (first | (go_at_call 4; (with_reducible refine (spec_DrawTurnNet.calls k _ _ l0 t377 t378 t381 _ ?side1 ?side2 A3.out).mono ?_); (case side1 => repeat (first | exact HR0.out | (with_reducible refine Kd.C_alloc ?_ _) | (with_reducible refine Kd.C_drewN ?_ _) | (with_reducible refine Kd.C_drew ?_))); (case side2 => exact HC0.out); rintro e w7 ⟨v379, v382, rfl, ho0, ho1, hb⟩; have HO380 := Aside0.mk (Kd.R_lower ho0 (below_size (ne_ HB.out))); have HO383 := Aside0.mk (Kd.R_lower ho1 (below_size (ne_ HB.out))); replace HB := kB_ HB hb; (try clear hb); (try clear hb2); (try clear hk); (try clear hi); (try clear ho0); (try clear ho1)) | ((with_reducible refine gate_dst (N := 3) rfl ?_); (try (refine gate_guard (by rfl) ?_; dsimp only)); refine bx_ 3 #[.int .i64 0, .slice none 0 0] 25 ?_; intro gb384 hg w8 hbox hb; have BK384 := Aside0.mk (hbox); have GW384 := Aside0.mk (zs_ hg (ne_ HB.out)); have GE384 := Aside0.mk (zs_ hg (ne_ HB.out)); replace HO380 := kR_ HO380 hb; replace HO383 := kR_ HO383 hb; replace HB := kB_ HB hb; clear hb hbox hg; obtain ⟨hcz9_0, hcz9_1, hfz9_0, hfz9_1⟩ := cz2_ BK384.out; obtain ⟨Ao10, co10, eo10⟩ := Kd.R_slice HO380.out; subst eo10; obtain ⟨Ao11, co11, eo11⟩ := Kd.R_slice HO383.out; subst eo11) | (go_at_call 5; (with_reducible refine (impl_TurnNet.calls k t377 _ _ t378 _ _ t381 t385 t386 t389 _ ?side1 ?side2 ?side3 ?side4 A4.out).mono ?_); (case side1 => refine (rR3 (e := 36) (base := w.heap.size) (ok := fun k_ => True) (n := t378.length) (c := co10) ?_).2.2; exact (by (with_reducible repeat (first | apply rA3 | apply rN3 | apply rD3)); exact (Kd.R_mono (rf2_ (Kd.R_types HO380.out BK384.out (by decide))) (fun _ h_ => h_.1)))); (case side2 => exact (rR3 HO380.out).2.1); (case side3 => refine (rR3 (e := 60) (base := w.heap.size) (ok := fun k_ => True) (n := t381.length) (c := co11) ?_).2.2; exact (by (with_reducible repeat (first | apply rA3 | apply rN3 | apply rD3)); exact (Kd.R_mono (rf2_ (Kd.R_types HO383.out BK384.out (by decide))) (fun _ h_ => h_.1)))); (case side4 => exact (rR3 HO383.out).2.1); rintro e w12 ⟨v387, rfl, ho0, hb⟩; have HO388 := Aside0.mk (Kd.R_lower (Kd.R_new' ho0 (Kd.R_lt (by (with_reducible repeat (first | apply rA3 | apply rN3 | apply rD3)); exact (Kd.R_mono (rf2_ (Kd.R_types HO380.out BK384.out (by decide))) (fun _ h_ => h_.1))))) (below_size (ne_ HB.out))); replace HO380 := Aside0.mk (Kd.R_elder' (by (with_reducible repeat (first | apply rA3 | apply rN3 | apply rD3)); exact (Kd.R_mono (rf2_ (Kd.R_types HO380.out BK384.out (by decide))) (fun _ h_ => h_.1))) (Kd.R_base ho0) hb); replace HO383 := Aside0.mk (rB3 (by (with_reducible repeat (first | apply rA3 | apply rN3 | apply rD3)); exact (Kd.R_mono (rf2_ (Kd.R_types HO383.out BK384.out (by decide))) (fun _ h_ => h_.1))) hb); replace BK384 := Aside0.mk (blk_below (g := gb384) (o := .cells #[.int .i64 t377, .slice Ao10 t378.length co10] 25 (0, 0)) (np_ BK384.out) hb); replace HB := kB_ HB hb; (try clear hb); (try clear hb2); (try clear hk); (try clear hi); (try clear ho0)) | ((with_reducible refine gate_dst (N := 5) rfl ?_); (try (refine gate_guard (by rfl) ?_; dsimp only)); refine bx_ 5 #[.int .i64 0, .slice none 0 0] 25 ?_; intro gb390 hg w13 hbox hb; have BK390 := Aside0.mk (hbox); have GW390 := Aside0.mk (zs_ hg (ne_ HB.out)); have GE390 := Aside0.mk (zs_ hg (ne_ HB.out)); have NB384_390 := Aside0.mk (nl_ BK384.out hg); have NB390_384 := Aside0.mk (nm_ BK384.out hg); replace HO380 := kR_ HO380 hb; replace HO383 := kR_ HO383 hb; replace HO388 := kR_ HO388 hb; replace BK384 := kb_ BK384 hb; replace HB := kB_ HB hb; clear hb hbox hg; have hnb14 := NB390_384.out; have hnc14 := NB384_390.out; obtain ⟨hcz15_0, hcz15_1, hfz15_0, hfz15_1⟩ := cz2_ BK390.out; obtain ⟨Ao16, co16, eo16⟩ := Kd.R_slice HO388.out; subst eo16; obtain ⟨hcz17_0, hcz17_1, hfz17_0, hfz17_1⟩ := cz2_ BK384.out) | (go_at_call 6; (with_reducible refine (spec_TurnNet.calls k t377 _ _ t378 _ _ t381 t391 t392 t395 _ ?side1 ?side2 ?side3 ?side4 A5.out).mono ?_); (case side1 => refine (rR3 (e := 36) (base := w.heap.size) (ok := fun k_ => (True ∧ some k_ ≠ (.slice Ao16 t386.length co16 : Value).ownBlock)) (n := t378.length) (c := co10) ?_).2.2; exact (by (with_reducible repeat (first | apply rA3 | apply rN3 | apply rD3)); exact (Kd.R_mono (rf2_ (Kd.R_types HO380.out BK390.out (by decide))) (fun _ h_ => h_.1)))); (case side2 => exact (rR3 HO380.out).2.1); (case side3 => refine (rR3 (e := 60) (base := w.heap.size) (ok := fun k_ => True) (n := t381.length) (c := co11) ?_).2.2; exact (by (with_reducible repeat (first | apply rA3 | apply rN3 | apply rD3)); exact (Kd.R_mono (rf2_ (Kd.R_types HO383.out BK390.out (by decide))) (fun _ h_ => h_.1)))); (case side4 => exact (rR3 HO383.out).2.1); rintro e w18 ⟨v393, rfl, ho0, hb⟩; have HO394 := Aside0.mk (Kd.R_lower (Kd.R_new' (Kd.R_new' ho0 (Kd.R_lt (by (with_reducible repeat (first | apply rA3 | apply rN3 | apply rD3)); exact (Kd.R_mono (rf2_ (Kd.R_types HO380.out BK390.out (by decide))) (fun _ h_ => h_.1))))) (Kd.R_lt (by (with_reducible repeat (first | apply rA3 | apply rN3 | apply rD3)); exact (Kd.R_mono (rf2_ (Kd.R_types HO388.out BK390.out (by decide))) (fun _ h_ => h_.1))))) (below_size (ne_ HB.out))); replace HO380 := Aside0.mk (Kd.R_elder' (by (with_reducible repeat (first | apply rA3 | apply rN3 | apply rD3)); exact (Kd.R_mono (rf2_ (Kd.R_types HO380.out BK390.out (by decide))) (fun _ h_ => h_.1))) (Kd.R_base ho0) hb); replace HO383 := Aside0.mk (rB3 (by (with_reducible repeat (first | apply rA3 | apply rN3 | apply rD3)); exact (Kd.R_mono (rf2_ (Kd.R_types HO383.out BK390.out (by decide))) (fun _ h_ => h_.1))) hb); replace HO388 := Aside0.mk (Kd.R_elder' (by (with_reducible repeat (first | apply rA3 | apply rN3 | apply rD3)); exact (Kd.R_mono (rf2_ (Kd.R_types HO388.out BK390.out (by decide))) (fun _ h_ => h_.1))) (Kd.R_base ho0) hb); replace BK384 := kf_ BK384 hb; replace BK390 := Aside0.mk (blk_below (g := gb390) (o := .cells #[.int .i64 t385, .slice Ao16 t386.length co16] 25 (0, 0)) (np_ BK390.out) hb); replace HB := kB_ HB hb; (try clear hb); (try clear hb2); (try clear hk); (try clear hi); (try clear ho0)) | ((with_reducible refine gate_dst (N := 7) rfl ?_); (try (refine gate_guard (by rfl) ?_; dsimp only)); refine bx_ 7 #[.int .i64 0, .slice none 0 0] 25 ?_; intro gb396 hg w19 hbox hb; have BK396 := Aside0.mk (hbox); have GW396 := Aside0.mk (zs_ hg (ne_ HB.out)); have GE396 := Aside0.mk (zs_ hg (ne_ HB.out)); have NB384_396 := Aside0.mk (nl_ BK384.out hg); have NB396_384 := Aside0.mk (nm_ BK384.out hg); have NB390_396 := Aside0.mk (nl_ BK390.out hg); have NB396_390 := Aside0.mk (nm_ BK390.out hg); replace HO380 := kR_ HO380 hb; replace HO383 := kR_ HO383 hb; replace HO388 := kR_ HO388 hb; replace HO394 := kR_ HO394 hb; replace BK384 := kb_ BK384 hb; replace BK390 := kb_ BK390 hb; replace HB := kB_ HB hb; clear hb hbox hg; have hnb20 := NB396_384.out; have hnc20 := NB384_396.out; have hnb21 := NB396_390.out; have hnc21 := NB390_396.out; obtain ⟨hcz22_0, hcz22_1, hfz22_0, hfz22_1⟩ := cz2_ BK396.out; obtain ⟨Ao23, co23, eo23⟩ := Kd.R_slice HO394.out; subst eo23)))
  (try simp only [Act.put, List.setIfInBounds_toArray, List.set_cons_zero, List.set_cons_succ])
  go_cut [48] (fun v48 wc => ∃ (kq : Nat) (x48_5 : Bool), v48 = .bool x48_5 ∧ Aside0 (laws_FnTurnNet.j0 kq t381 t389 t395 x48_5 t377 t378 t385 t386 t391 t392 = some r) ∧ Aside0 (kq ≤ k) ∧ Aside0 (Kd.R k60 60 wc w.heap.size (fun _ => True) (.slice Ao11 t381.length co11) t381) ∧ Aside0 (Kd.R k36 36 wc w.heap.size (fun k_ => some k_ ≠ ((.slice Ao16 t386.length co16) : Value).ownBlock ∧ some k_ ≠ ((.slice Ao23 t392.length co23) : Value).ownBlock) (.slice Ao10 t378.length co10) t378) ∧ Aside0 (Kd.R k36 36 wc w.heap.size (fun k_ => some k_ ≠ ((.slice Ao10 t378.length co10) : Value).ownBlock ∧ some k_ ≠ ((.slice Ao23 t392.length co23) : Value).ownBlock) (.slice Ao16 t386.length co16) t386) ∧ Aside0 (Kd.R k36 36 wc w.heap.size (fun k_ => some k_ ≠ ((.slice Ao10 t378.length co10) : Value).ownBlock ∧ some k_ ≠ ((.slice Ao16 t386.length co16) : Value).ownBlock) (.slice Ao23 t392.length co23) t392) ∧ Aside0 (wc.heap[gb384]? = some (.cells #[.int .i64 t377, (.slice Ao10 t378.length co10)] 25 (0, 0))) ∧ Aside0 (wc.heap[gb390]? = some (.cells #[.int .i64 t385, (.slice Ao16 t386.length co16)] 25 (0, 0))) ∧ Aside0 (wc.heap[gb396]? = some (.cells #[.int .i64 t391, (.slice Ao23 t392.length co23)] 25 (0, 0))) ∧ Aside0 (Below w.heap.size w wc))
  case first =>
   have H := HC6.out
   clear HC6
   by_cases c24 : (t389 != t395) = true
   ·rw [if_pos c24] at H
    have c24b0 : (t389 != t395) = true := c24
    (try (have c24b1 : decide (t389 = t395) = false := by simpa using c24))
    (try (have c24b2 : (t389 == t395) = false := by simpa using c24))
    (try (have c24b3 : ¬ (t389 = t395) := by simpa using c24))
    clear c24
    (first | rw [c24b0] | (simp only [i64_w, i32_w]; rw [c24b0]) | skip)
    have H' := Aside0.mk H
    clear H
    go_wp2
    repeat (go_quiet (fail); try go_wp2)
    go_meet
    case rel => exact ⟨_, (true), ns_, H', ⟨by first | omega | exact Nat.le_refl _⟩, ⟨by (with_reducible repeat (first | apply rA3 | apply rN3 | apply rD3)); exact Kd.R_mono (rf2_ (Kd.R_types HO383.out BK396.out (by decide))) (fun _ hk => trivial)⟩, ⟨by (with_reducible repeat (first | apply rA3 | apply rN3 | apply rD3)); exact Kd.R_mono (rf2_ (Kd.R_types HO380.out BK396.out (by decide))) (fun _ hk => by first | exact ⟨hk.1.1.2, hk.1.2⟩ | trivial | simp_all)⟩, ⟨by (with_reducible repeat (first | apply rA3 | apply rN3 | apply rD3)); exact Kd.R_mono (rf2_ (Kd.R_types HO388.out BK396.out (by decide))) (fun _ hk => by first | exact ⟨hk.1.1.2, hk.1.2⟩ | trivial | simp_all)⟩, ⟨by (with_reducible repeat (first | apply rA3 | apply rN3 | apply rD3)); exact Kd.R_mono (rf2_ (Kd.R_types HO394.out BK396.out (by decide))) (fun _ hk => by first | exact ⟨hk.1.1.2, hk.1.2⟩ | trivial | simp_all)⟩, ⟨np_ BK384.out⟩, ⟨np_ BK390.out⟩, ⟨np_ BK396.out⟩, ⟨ne_ HB.out⟩⟩
   rw [if_neg c24] at H
   have c24b0 : (t389 != t395) = false := by simpa using c24
   (try (have c24b1 : decide (t389 = t395) = true := by simpa using c24))
   (try (have c24b2 : (t389 == t395) = true := by simpa using c24))
   clear c24
   (first | rw [c24b0] | (simp only [i64_w, i32_w]; rw [c24b0]) | skip)
   replace H := Option.bind_eq_some_iff.mp H
   obtain ⟨t397, A250, H⟩ := H
   try dsimp only at H
   have A25 := Aside0.mk A250
   clear A250
   by_cases c26 : t397 = true
   ·subst c26
    rw [if_pos rfl] at H
    have H' := Aside0.mk H
    clear H
    have hnb27 := NB390_384.out
    have hnc27 := NB384_390.out
    have hnb28 := NB390_396.out
    have hnc28 := NB396_390.out
    obtain ⟨hcz29_0, hcz29_1, hfz29_0, hfz29_1⟩ := cz2_ BK390.out
    have hnb30 := NB396_384.out
    have hnc30 := NB384_396.out
    obtain ⟨hcz31_0, hcz31_1, hfz31_0, hfz31_1⟩ := cz2_ BK396.out
    go_wp2_with (first | (go_at_call 7; (with_reducible refine (laws_wkNet.calls k t385 _ _ t386 t391 _ _ t392 true _ ?side1 ?side2 ?side3 ?side4 A25.out).mono ?_); (case side1 => refine (rR3 (e := 36) (base := w.heap.size) (ok := fun k_ => ((True ∧ some k_ ≠ (.slice Ao10 t378.length co10 : Value).ownBlock) ∧ some k_ ≠ (.slice Ao23 t392.length co23 : Value).ownBlock)) (n := t386.length) (c := co16) ?_).2.2; exact (by (with_reducible repeat (first | apply rA3 | apply rN3 | apply rD3)); exact (Kd.R_mono (rf2_ (Kd.R_types HO388.out BK396.out (by decide))) (fun _ h_ => h_.1)))); (case side2 => exact (rR3 HO388.out).2.1); (case side3 => refine (rR3 (e := 36) (base := w.heap.size) (ok := fun k_ => ((True ∧ some k_ ≠ (.slice Ao10 t378.length co10 : Value).ownBlock) ∧ some k_ ≠ (.slice Ao16 t386.length co16 : Value).ownBlock)) (n := t392.length) (c := co23) ?_).2.2; exact (by (with_reducible repeat (first | apply rA3 | apply rN3 | apply rD3)); exact (Kd.R_mono (rf2_ (Kd.R_types HO394.out BK396.out (by decide))) (fun _ h_ => h_.1)))); (case side4 => exact (rR3 HO394.out).2.1); rintro e w32 ⟨rfl, hb⟩; replace HO380 := Aside0.mk (rB3 (by (with_reducible repeat (first | apply rA3 | apply rN3 | apply rD3)); exact (Kd.R_mono (rf2_ (Kd.R_types HO380.out BK396.out (by decide))) (fun _ h_ => h_.1))) hb); replace HO383 := Aside0.mk (rB3 (by (with_reducible repeat (first | apply rA3 | apply rN3 | apply rD3)); exact (Kd.R_mono (rf2_ (Kd.R_types HO383.out BK396.out (by decide))) (fun _ h_ => h_.1))) hb); replace HO388 := Aside0.mk (rB3 (by (with_reducible repeat (first | apply rA3 | apply rN3 | apply rD3)); exact (Kd.R_mono (rf2_ (Kd.R_types HO388.out BK396.out (by decide))) (fun _ h_ => h_.1))) hb); replace HO394 := Aside0.mk (rB3 (by (with_reducible repeat (first | apply rA3 | apply rN3 | apply rD3)); exact (Kd.R_mono (rf2_ (Kd.R_types HO394.out BK396.out (by decide))) (fun _ h_ => h_.1))) hb); replace BK384 := kf_ BK384 hb; replace BK390 := kf_ BK390 hb; replace BK396 := Aside0.mk (blk_below (g := gb396) (o := .cells #[.int .i64 t391, .slice Ao23 t392.length co23] 25 (0, 0)) (np_ BK396.out) hb); replace HB := kB_ HB hb; (try clear hb); (try clear hb2); (try clear hk); (try clear hi)))
    repeat (go_quiet (first | (go_at_call 7; (with_reducible refine (laws_wkNet.calls k t385 _ _ t386 t391 _ _ t392 true _ ?side1 ?side2 ?side3 ?side4 A25.out).mono ?_); (case side1 => refine (rR3 (e := 36) (base := w.heap.size) (ok := fun k_ => ((True ∧ some k_ ≠ (.slice Ao10 t378.length co10 : Value).ownBlock) ∧ some k_ ≠ (.slice Ao23 t392.length co23 : Value).ownBlock)) (n := t386.length) (c := co16) ?_).2.2; exact (by (with_reducible repeat (first | apply rA3 | apply rN3 | apply rD3)); exact (Kd.R_mono (rf2_ (Kd.R_types HO388.out BK396.out (by decide))) (fun _ h_ => h_.1)))); (case side2 => exact (rR3 HO388.out).2.1); (case side3 => refine (rR3 (e := 36) (base := w.heap.size) (ok := fun k_ => ((True ∧ some k_ ≠ (.slice Ao10 t378.length co10 : Value).ownBlock) ∧ some k_ ≠ (.slice Ao16 t386.length co16 : Value).ownBlock)) (n := t392.length) (c := co23) ?_).2.2; exact (by (with_reducible repeat (first | apply rA3 | apply rN3 | apply rD3)); exact (Kd.R_mono (rf2_ (Kd.R_types HO394.out BK396.out (by decide))) (fun _ h_ => h_.1)))); (case side4 => exact (rR3 HO394.out).2.1); rintro e w32 ⟨rfl, hb⟩; replace HO380 := Aside0.mk (rB3 (by (with_reducible repeat (first | apply rA3 | apply rN3 | apply rD3)); exact (Kd.R_mono (rf2_ (Kd.R_types HO380.out BK396.out (by decide))) (fun _ h_ => h_.1))) hb); replace HO383 := Aside0.mk (rB3 (by (with_reducible repeat (first | apply rA3 | apply rN3 | apply rD3)); exact (Kd.R_mono (rf2_ (Kd.R_types HO383.out BK396.out (by decide))) (fun _ h_ => h_.1))) hb); replace HO388 := Aside0.mk (rB3 (by (with_reducible repeat (first | apply rA3 | apply rN3 | apply rD3)); exact (Kd.R_mono (rf2_ (Kd.R_types HO388.out BK396.out (by decide))) (fun _ h_ => h_.1))) hb); replace HO394 := Aside0.mk (rB3 (by (with_reducible repeat (first | apply rA3 | apply rN3 | apply rD3)); exact (Kd.R_mono (rf2_ (Kd.R_types HO394.out BK396.out (by decide))) (fun _ h_ => h_.1))) hb); replace BK384 := kf_ BK384 hb; replace BK390 := kf_ BK390 hb; replace BK396 := Aside0.mk (blk_below (g := gb396) (o := .cells #[.int .i64 t391, .slice Ao23 t392.length co23] 25 (0, 0)) (np_ BK396.out) hb); replace HB := kB_ HB hb; (try clear hb); (try clear hb2); (try clear hk); (try clear hi))); try go_wp2_with (first | (go_at_call 7; (with_reducible refine (laws_wkNet.calls k t385 _ _ t386 t391 _ _ t392 true _ ?side1 ?side2 ?side3 ?side4 A25.out).mono ?_); (case side1 => refine (rR3 (e := 36) (base := w.heap.size) (ok := fun k_ => ((True ∧ some k_ ≠ (.slice Ao10 t378.length co10 : Value).ownBlock) ∧ some k_ ≠ (.slice Ao23 t392.length co23 : Value).ownBlock)) (n := t386.length) (c := co16) ?_).2.2; exact (by (with_reducible repeat (first | apply rA3 | apply rN3 | apply rD3)); exact (Kd.R_mono (rf2_ (Kd.R_types HO388.out BK396.out (by decide))) (fun _ h_ => h_.1)))); (case side2 => exact (rR3 HO388.out).2.1); (case side3 => refine (rR3 (e := 36) (base := w.heap.size) (ok := fun k_ => ((True ∧ some k_ ≠ (.slice Ao10 t378.length co10 : Value).ownBlock) ∧ some k_ ≠ (.slice Ao16 t386.length co16 : Value).ownBlock)) (n := t392.length) (c := co23) ?_).2.2; exact (by (with_reducible repeat (first | apply rA3 | apply rN3 | apply rD3)); exact (Kd.R_mono (rf2_ (Kd.R_types HO394.out BK396.out (by decide))) (fun _ h_ => h_.1)))); (case side4 => exact (rR3 HO394.out).2.1); rintro e w32 ⟨rfl, hb⟩; replace HO380 := Aside0.mk (rB3 (by (with_reducible repeat (first | apply rA3 | apply rN3 | apply rD3)); exact (Kd.R_mono (rf2_ (Kd.R_types HO380.out BK396.out (by decide))) (fun _ h_ => h_.1))) hb); replace HO383 := Aside0.mk (rB3 (by (with_reducible repeat (first | apply rA3 | apply rN3 | apply rD3)); exact (Kd.R_mono (rf2_ (Kd.R_types HO383.out BK396.out (by decide))) (fun _ h_ => h_.1))) hb); replace HO388 := Aside0.mk (rB3 (by (with_reducible repeat (first | apply rA3 | apply rN3 | apply rD3)); exact (Kd.R_mono (rf2_ (Kd.R_types HO388.out BK396.out (by decide))) (fun _ h_ => h_.1))) hb); replace HO394 := Aside0.mk (rB3 (by (with_reducible repeat (first | apply rA3 | apply rN3 | apply rD3)); exact (Kd.R_mono (rf2_ (Kd.R_types HO394.out BK396.out (by decide))) (fun _ h_ => h_.1))) hb); replace BK384 := kf_ BK384 hb; replace BK390 := kf_ BK390 hb; replace BK396 := Aside0.mk (blk_below (g := gb396) (o := .cells #[.int .i64 t391, .slice Ao23 t392.length co23] 25 (0, 0)) (np_ BK396.out) hb); replace HB := kB_ HB hb; (try clear hb); (try clear hb2); (try clear hk); (try clear hi))))
    go_meet
    case rel => exact ⟨_, (!t389), ns_, H', ⟨by first | omega | exact Nat.le_refl _⟩, ⟨nr_ HO383.out⟩, ⟨by (with_reducible repeat (first | apply rA3 | apply rN3 | apply rD3)); exact Kd.R_mono HO380.out (fun _ hk => by first | exact ⟨hk.1.2, hk.2⟩ | trivial | simp_all)⟩, ⟨by (with_reducible repeat (first | apply rA3 | apply rN3 | apply rD3)); exact Kd.R_mono HO388.out (fun _ hk => by first | exact ⟨hk.1.2, hk.2⟩ | trivial | simp_all)⟩, ⟨by (with_reducible repeat (first | apply rA3 | apply rN3 | apply rD3)); exact Kd.R_mono HO394.out (fun _ hk => by first | exact ⟨hk.1.2, hk.2⟩ | trivial | simp_all)⟩, ⟨nb_ BK384.out⟩, ⟨nb_ BK390.out⟩, ⟨nb_ BK396.out⟩, ⟨ne_ HB.out⟩⟩
   replace c26 := Bool.eq_false_iff.mpr c26
   subst c26
   have H1 : (laws_FnTurnNet.j0 k t381 t389 t395 true t377 t378 t385 t386 t391 t392) = some r := by rw [if_neg (show ¬ (false = true) by decide)] at H; exact H
   clear H
   have H := H1
   clear H1
   have H' := Aside0.mk H
   clear H
   have hnb33 := NB390_384.out
   have hnc33 := NB384_390.out
   have hnb34 := NB390_396.out
   have hnc34 := NB396_390.out
   obtain ⟨hcz35_0, hcz35_1, hfz35_0, hfz35_1⟩ := cz2_ BK390.out
   have hnb36 := NB396_384.out
   have hnc36 := NB384_396.out
   obtain ⟨hcz37_0, hcz37_1, hfz37_0, hfz37_1⟩ := cz2_ BK396.out
   go_wp2_with (first | (go_at_call 7; (with_reducible refine (laws_wkNet.calls k t385 _ _ t386 t391 _ _ t392 false _ ?side1 ?side2 ?side3 ?side4 A25.out).mono ?_); (case side1 => refine (rR3 (e := 36) (base := w.heap.size) (ok := fun k_ => ((True ∧ some k_ ≠ (.slice Ao10 t378.length co10 : Value).ownBlock) ∧ some k_ ≠ (.slice Ao23 t392.length co23 : Value).ownBlock)) (n := t386.length) (c := co16) ?_).2.2; exact (by (with_reducible repeat (first | apply rA3 | apply rN3 | apply rD3)); exact (Kd.R_mono (rf2_ (Kd.R_types HO388.out BK396.out (by decide))) (fun _ h_ => h_.1)))); (case side2 => exact (rR3 HO388.out).2.1); (case side3 => refine (rR3 (e := 36) (base := w.heap.size) (ok := fun k_ => ((True ∧ some k_ ≠ (.slice Ao10 t378.length co10 : Value).ownBlock) ∧ some k_ ≠ (.slice Ao16 t386.length co16 : Value).ownBlock)) (n := t392.length) (c := co23) ?_).2.2; exact (by (with_reducible repeat (first | apply rA3 | apply rN3 | apply rD3)); exact (Kd.R_mono (rf2_ (Kd.R_types HO394.out BK396.out (by decide))) (fun _ h_ => h_.1)))); (case side4 => exact (rR3 HO394.out).2.1); rintro e w38 ⟨rfl, hb⟩; replace HO380 := Aside0.mk (rB3 (by (with_reducible repeat (first | apply rA3 | apply rN3 | apply rD3)); exact (Kd.R_mono (rf2_ (Kd.R_types HO380.out BK396.out (by decide))) (fun _ h_ => h_.1))) hb); replace HO383 := Aside0.mk (rB3 (by (with_reducible repeat (first | apply rA3 | apply rN3 | apply rD3)); exact (Kd.R_mono (rf2_ (Kd.R_types HO383.out BK396.out (by decide))) (fun _ h_ => h_.1))) hb); replace HO388 := Aside0.mk (rB3 (by (with_reducible repeat (first | apply rA3 | apply rN3 | apply rD3)); exact (Kd.R_mono (rf2_ (Kd.R_types HO388.out BK396.out (by decide))) (fun _ h_ => h_.1))) hb); replace HO394 := Aside0.mk (rB3 (by (with_reducible repeat (first | apply rA3 | apply rN3 | apply rD3)); exact (Kd.R_mono (rf2_ (Kd.R_types HO394.out BK396.out (by decide))) (fun _ h_ => h_.1))) hb); replace BK384 := kf_ BK384 hb; replace BK390 := kf_ BK390 hb; replace BK396 := Aside0.mk (blk_below (g := gb396) (o := .cells #[.int .i64 t391, .slice Ao23 t392.length co23] 25 (0, 0)) (np_ BK396.out) hb); replace HB := kB_ HB hb; (try clear hb); (try clear hb2); (try clear hk); (try clear hi)))
   repeat (go_quiet (first | (go_at_call 7; (with_reducible refine (laws_wkNet.calls k t385 _ _ t386 t391 _ _ t392 false _ ?side1 ?side2 ?side3 ?side4 A25.out).mono ?_); (case side1 => refine (rR3 (e := 36) (base := w.heap.size) (ok := fun k_ => ((True ∧ some k_ ≠ (.slice Ao10 t378.length co10 : Value).ownBlock) ∧ some k_ ≠ (.slice Ao23 t392.length co23 : Value).ownBlock)) (n := t386.length) (c := co16) ?_).2.2; exact (by (with_reducible repeat (first | apply rA3 | apply rN3 | apply rD3)); exact (Kd.R_mono (rf2_ (Kd.R_types HO388.out BK396.out (by decide))) (fun _ h_ => h_.1)))); (case side2 => exact (rR3 HO388.out).2.1); (case side3 => refine (rR3 (e := 36) (base := w.heap.size) (ok := fun k_ => ((True ∧ some k_ ≠ (.slice Ao10 t378.length co10 : Value).ownBlock) ∧ some k_ ≠ (.slice Ao16 t386.length co16 : Value).ownBlock)) (n := t392.length) (c := co23) ?_).2.2; exact (by (with_reducible repeat (first | apply rA3 | apply rN3 | apply rD3)); exact (Kd.R_mono (rf2_ (Kd.R_types HO394.out BK396.out (by decide))) (fun _ h_ => h_.1)))); (case side4 => exact (rR3 HO394.out).2.1); rintro e w38 ⟨rfl, hb⟩; replace HO380 := Aside0.mk (rB3 (by (with_reducible repeat (first | apply rA3 | apply rN3 | apply rD3)); exact (Kd.R_mono (rf2_ (Kd.R_types HO380.out BK396.out (by decide))) (fun _ h_ => h_.1))) hb); replace HO383 := Aside0.mk (rB3 (by (with_reducible repeat (first | apply rA3 | apply rN3 | apply rD3)); exact (Kd.R_mono (rf2_ (Kd.R_types HO383.out BK396.out (by decide))) (fun _ h_ => h_.1))) hb); replace HO388 := Aside0.mk (rB3 (by (with_reducible repeat (first | apply rA3 | apply rN3 | apply rD3)); exact (Kd.R_mono (rf2_ (Kd.R_types HO388.out BK396.out (by decide))) (fun _ h_ => h_.1))) hb); replace HO394 := Aside0.mk (rB3 (by (with_reducible repeat (first | apply rA3 | apply rN3 | apply rD3)); exact (Kd.R_mono (rf2_ (Kd.R_types HO394.out BK396.out (by decide))) (fun _ h_ => h_.1))) hb); replace BK384 := kf_ BK384 hb; replace BK390 := kf_ BK390 hb; replace BK396 := Aside0.mk (blk_below (g := gb396) (o := .cells #[.int .i64 t391, .slice Ao23 t392.length co23] 25 (0, 0)) (np_ BK396.out) hb); replace HB := kB_ HB hb; (try clear hb); (try clear hb2); (try clear hk); (try clear hi))); try go_wp2_with (first | (go_at_call 7; (with_reducible refine (laws_wkNet.calls k t385 _ _ t386 t391 _ _ t392 false _ ?side1 ?side2 ?side3 ?side4 A25.out).mono ?_); (case side1 => refine (rR3 (e := 36) (base := w.heap.size) (ok := fun k_ => ((True ∧ some k_ ≠ (.slice Ao10 t378.length co10 : Value).ownBlock) ∧ some k_ ≠ (.slice Ao23 t392.length co23 : Value).ownBlock)) (n := t386.length) (c := co16) ?_).2.2; exact (by (with_reducible repeat (first | apply rA3 | apply rN3 | apply rD3)); exact (Kd.R_mono (rf2_ (Kd.R_types HO388.out BK396.out (by decide))) (fun _ h_ => h_.1)))); (case side2 => exact (rR3 HO388.out).2.1); (case side3 => refine (rR3 (e := 36) (base := w.heap.size) (ok := fun k_ => ((True ∧ some k_ ≠ (.slice Ao10 t378.length co10 : Value).ownBlock) ∧ some k_ ≠ (.slice Ao16 t386.length co16 : Value).ownBlock)) (n := t392.length) (c := co23) ?_).2.2; exact (by (with_reducible repeat (first | apply rA3 | apply rN3 | apply rD3)); exact (Kd.R_mono (rf2_ (Kd.R_types HO394.out BK396.out (by decide))) (fun _ h_ => h_.1)))); (case side4 => exact (rR3 HO394.out).2.1); rintro e w38 ⟨rfl, hb⟩; replace HO380 := Aside0.mk (rB3 (by (with_reducible repeat (first | apply rA3 | apply rN3 | apply rD3)); exact (Kd.R_mono (rf2_ (Kd.R_types HO380.out BK396.out (by decide))) (fun _ h_ => h_.1))) hb); replace HO383 := Aside0.mk (rB3 (by (with_reducible repeat (first | apply rA3 | apply rN3 | apply rD3)); exact (Kd.R_mono (rf2_ (Kd.R_types HO383.out BK396.out (by decide))) (fun _ h_ => h_.1))) hb); replace HO388 := Aside0.mk (rB3 (by (with_reducible repeat (first | apply rA3 | apply rN3 | apply rD3)); exact (Kd.R_mono (rf2_ (Kd.R_types HO388.out BK396.out (by decide))) (fun _ h_ => h_.1))) hb); replace HO394 := Aside0.mk (rB3 (by (with_reducible repeat (first | apply rA3 | apply rN3 | apply rD3)); exact (Kd.R_mono (rf2_ (Kd.R_types HO394.out BK396.out (by decide))) (fun _ h_ => h_.1))) hb); replace BK384 := kf_ BK384 hb; replace BK390 := kf_ BK390 hb; replace BK396 := Aside0.mk (blk_below (g := gb396) (o := .cells #[.int .i64 t391, .slice Ao23 t392.length co23] 25 (0, 0)) (np_ BK396.out) hb); replace HB := kB_ HB hb; (try clear hb); (try clear hb2); (try clear hk); (try clear hi))))
   go_meet
   case rel => exact ⟨_, (true), ns_, H', ⟨by first | omega | exact Nat.le_refl _⟩, ⟨nr_ HO383.out⟩, ⟨by (with_reducible repeat (first | apply rA3 | apply rN3 | apply rD3)); exact Kd.R_mono HO380.out (fun _ hk => by first | exact ⟨hk.1.2, hk.2⟩ | trivial | simp_all)⟩, ⟨by (with_reducible repeat (first | apply rA3 | apply rN3 | apply rD3)); exact Kd.R_mono HO388.out (fun _ hk => by first | exact ⟨hk.1.2, hk.2⟩ | trivial | simp_all)⟩, ⟨by (with_reducible repeat (first | apply rA3 | apply rN3 | apply rD3)); exact Kd.R_mono HO394.out (fun _ hk => by first | exact ⟨hk.1.2, hk.2⟩ | trivial | simp_all)⟩, ⟨nb_ BK384.out⟩, ⟨nb_ BK390.out⟩, ⟨nb_ BK396.out⟩, ⟨ne_ HB.out⟩⟩
  case rest =>
   clear HC6
   try clear c2
   try clear c2b0
   try clear c2b1
   try clear hcz15_0
   try clear hcz15_1
   try clear hcz17_0
   try clear hcz17_1
   try clear hcz22_0
   try clear hcz22_1
   try clear hcz9_0
   try clear hcz9_1
   try clear hfz15_0
   try clear hfz15_1
   try clear hfz17_0
   try clear hfz17_1
   try clear hfz22_0
   try clear hfz22_1
   try clear hfz9_0
   try clear hfz9_1
   obtain ⟨kq, x48_5, rfl, HA, HJ5, HO_4, HO_385001, HO_391001, HO_397001, BK384, BK390, BK396, HB⟩ := hcut
   cases kq with
   | zero => exact absurd HA.out (by simp [laws_FnTurnNet.j0])
   | succ kj5 =>
    have H := HA.out
    clear HA
    simp only [laws_FnTurnNet.j0] at H
    by_cases c39 : x48_5 = true
    ·subst c39
     rw [if_pos rfl] at H
     by_cases c40 : (t389 == t395) = true
     rotate_left
     ·rw [if_neg c40] at H
      have c40b0 : (t389 == t395) = false := by simpa using c40
      (try (have c40b1 : decide (t389 = t395) = false := by simpa using c40))
      (try (have c40b2 : (t389 == t395) = false := by simpa using c40))
      (try (have c40b3 : ¬ (t389 = t395) := by simpa using c40))
      clear c40
      obtain rfl := Option.some.inj H
      go_wp2
      repeat (go_quiet (fail); try go_wp2)
      go_ret
      exact ⟨nw_, ne_ HB.out⟩
     rw [if_pos c40] at H
     have c40b0 : (t389 == t395) = true := c40
     (try (have c40b1 : decide (t389 = t395) = true := by simpa using c40))
     (try (have c40b2 : (t389 == t395) = true := by simpa using c40))
     clear c40
     replace H := Option.bind_eq_some_iff.mp H
     obtain ⟨t398, A410, H⟩ := H
     replace H : (some t398) = some r := H
     have A41 := Aside0.mk A410
     clear A410
     obtain rfl := Option.some.inj H
     have hnb42 := NB390_384.out
     have hnc42 := NB384_390.out
     have hnb43 := NB390_396.out
     have hnc43 := NB396_390.out
     obtain ⟨hcz44_0, hcz44_1, hfz44_0, hfz44_1⟩ := cz2_ BK390.out
     have hnb45 := NB396_384.out
     have hnc45 := NB384_396.out
     obtain ⟨hcz46_0, hcz46_1, hfz46_0, hfz46_1⟩ := cz2_ BK396.out
     go_wp2_with (first | (go_at_call 7; (with_reducible refine (laws_wkNet.calls kj5 t385 _ _ t386 t391 _ _ t392 t398 _ ?side1 ?side2 ?side3 ?side4 A41.out).mono ?_); (case side1 => exact nc_ (rR3 HO_391001.out).2.2); (case side2 => exact (rR3 HO_391001.out).2.1); (case side3 => exact nc_ (rR3 HO_397001.out).2.2); (case side4 => exact (rR3 HO_397001.out).2.1); rintro e w47 ⟨rfl, hb⟩; replace HO_4 := kR_ HO_4 hb; replace HO_385001 := kR_ HO_385001 hb; replace HO_391001 := kR_ HO_391001 hb; replace HO_397001 := kR_ HO_397001 hb; replace BK384 := kb_ BK384 hb; replace BK390 := kb_ BK390 hb; replace BK396 := kb_ BK396 hb; replace HB := kB_ HB hb; (try clear hb); (try clear hb2); (try clear hk); (try clear hi)))
     repeat (go_quiet (first | (go_at_call 7; (with_reducible refine (laws_wkNet.calls kj5 t385 _ _ t386 t391 _ _ t392 t398 _ ?side1 ?side2 ?side3 ?side4 A41.out).mono ?_); (case side1 => exact nc_ (rR3 HO_391001.out).2.2); (case side2 => exact (rR3 HO_391001.out).2.1); (case side3 => exact nc_ (rR3 HO_397001.out).2.2); (case side4 => exact (rR3 HO_397001.out).2.1); rintro e w47 ⟨rfl, hb⟩; replace HO_4 := kR_ HO_4 hb; replace HO_385001 := kR_ HO_385001 hb; replace HO_391001 := kR_ HO_391001 hb; replace HO_397001 := kR_ HO_397001 hb; replace BK384 := kb_ BK384 hb; replace BK390 := kb_ BK390 hb; replace BK396 := kb_ BK396 hb; replace HB := kB_ HB hb; (try clear hb); (try clear hb2); (try clear hk); (try clear hi))); try go_wp2_with (first | (go_at_call 7; (with_reducible refine (laws_wkNet.calls kj5 t385 _ _ t386 t391 _ _ t392 t398 _ ?side1 ?side2 ?side3 ?side4 A41.out).mono ?_); (case side1 => exact nc_ (rR3 HO_391001.out).2.2); (case side2 => exact (rR3 HO_391001.out).2.1); (case side3 => exact nc_ (rR3 HO_397001.out).2.2); (case side4 => exact (rR3 HO_397001.out).2.1); rintro e w47 ⟨rfl, hb⟩; replace HO_4 := kR_ HO_4 hb; replace HO_385001 := kR_ HO_385001 hb; replace HO_391001 := kR_ HO_391001 hb; replace HO_397001 := kR_ HO_397001 hb; replace BK384 := kb_ BK384 hb; replace BK390 := kb_ BK390 hb; replace BK396 := kb_ BK396 hb; replace HB := kB_ HB hb; (try clear hb); (try clear hb2); (try clear hk); (try clear hi))))
     go_ret
     exact ⟨nw_, ne_ HB.out⟩
    replace c39 := Bool.eq_false_iff.mpr c39
    subst c39
    have H1 : (laws_FnTurnNet.l0 kj5 t381 0 t377 t378 t385 t386) = some r := by rw [if_neg (show ¬ (false = true) by decide)] at H; exact H
    clear H
    have H := H1
    clear H1
    have H' := Aside0.mk H
    clear H
    go_wp2
    repeat (go_quiet (fail); try go_wp2)
    go_loopg [9] kj5 (fun kq v9 w' => ∃ (x9_2 : Int), v9 = .int .i64 x9_2 ∧ Aside0 (laws_FnTurnNet.l0 kq t381 x9_2 t377 t378 t385 t386 = some r) ∧ Aside0 (kq ≤ kj5) ∧ Aside0 (Kd.R k60 60 w' w.heap.size (fun _ => True) (.slice Ao11 t381.length co11) t381) ∧ Aside0 (Kd.R k36 36 w' w.heap.size (fun k_ => some k_ ≠ ((.slice Ao16 t386.length co16) : Value).ownBlock ∧ some k_ ≠ ((.slice Ao23 t392.length co23) : Value).ownBlock) (.slice Ao10 t378.length co10) t378) ∧ Aside0 (Kd.R k36 36 w' w.heap.size (fun k_ => some k_ ≠ ((.slice Ao10 t378.length co10) : Value).ownBlock ∧ some k_ ≠ ((.slice Ao23 t392.length co23) : Value).ownBlock) (.slice Ao16 t386.length co16) t386) ∧ Aside0 (Kd.R k36 36 w' w.heap.size (fun k_ => some k_ ≠ ((.slice Ao10 t378.length co10) : Value).ownBlock ∧ some k_ ≠ ((.slice Ao16 t386.length co16) : Value).ownBlock) (.slice Ao23 t392.length co23) t392) ∧ Aside0 (w'.heap[gb384]? = some (.cells #[.int .i64 t377, (.slice Ao10 t378.length co10)] 25 (0, 0))) ∧ Aside0 (w'.heap[gb390]? = some (.cells #[.int .i64 t385, (.slice Ao16 t386.length co16)] 25 (0, 0))) ∧ Aside0 (w'.heap[gb396]? = some (.cells #[.int .i64 t391, (.slice Ao23 t392.length co23)] 25 (0, 0))) ∧ Aside0 (Below w.heap.size w w'))
    case atStart => exact ⟨(0), ns_, H', ⟨Nat.le_refl _⟩, ⟨nr_ HO_4.out⟩, ⟨nr_ HO_385001.out⟩, ⟨nr_ HO_391001.out⟩, ⟨nr_ HO_397001.out⟩, ⟨nb_ BK384.out⟩, ⟨nb_ BK390.out⟩, ⟨nb_ BK396.out⟩, ⟨ne_ HB.out⟩⟩
    case round =>
     clear H'
     try clear c2
     try clear c2b0
     try clear c2b1
     try clear c39
     try clear hcz15_0
     try clear hcz15_1
     try clear hcz17_0
     try clear hcz17_1
     try clear hcz22_0
     try clear hcz22_1
     try clear hcz9_0
     try clear hcz9_1
     try clear hfz15_0
     try clear hfz15_1
     try clear hfz17_0
     try clear hfz17_1
     try clear hfz22_0
     try clear hfz22_1
     try clear hfz9_0
     try clear hfz9_1
     obtain ⟨x9_2, rfl, HA, HK2, HO_4, HO_385001, HO_391001, HO_397001, BK384, BK390, BK396, HB⟩ := hrel
     cases gk with
     | zero => exact absurd HA.out (by simp [laws_FnTurnNet.l0])
     | succ k2 =>
      have H := HA.out
      clear HA
      simp only [laws_FnTurnNet.l0] at H
      by_cases c48 : x9_2 < t377
      rotate_left
      ·rw [if_neg c48] at H
       have c48b0 : decide (x9_2 < t377) = false := decide_eq_false c48
       clear c48
       replace H := Option.bind_eq_some_iff.mp H
       obtain ⟨t399, A1120, H⟩ := H
       replace H : (if t399 = true then (some (t385 == (t378.length : Int))) else (some false)) = some r := H
       have A112 := Aside0.mk A1120
       clear A1120
       by_cases c113 : t399 = true
       rotate_left
       ·replace c113 := Bool.eq_false_iff.mpr c113
        subst c113
        have H1 : (some false) = some r := by rw [if_neg (show ¬ (false = true) by decide)] at H; exact H
        clear H
        have H := H1
        clear H1
        obtain rfl := Option.some.inj H
        have hnb122 := NB384_390.out
        have hnc122 := NB390_384.out
        have hnb123 := NB384_396.out
        have hnc123 := NB396_384.out
        obtain ⟨hcz124_0, hcz124_1, hfz124_0, hfz124_1⟩ := cz2_ BK384.out
        have hnb125 := NB390_396.out
        have hnc125 := NB396_390.out
        obtain ⟨hcz126_0, hcz126_1, hfz126_0, hfz126_1⟩ := cz2_ BK390.out
        go_wp2_with (first | (go_at_call 10; (with_reducible refine (impl_NetOk.calls t385 _ _ t386 false _ ?side1 ?side2 A112.out).mono ?_); (case side1 => exact nc_ (rR3 HO_391001.out).2.2); (case side2 => exact (rR3 HO_391001.out).2.1); rintro e w127 ⟨rfl, hb⟩; replace HO_4 := kR_ HO_4 hb; replace HO_385001 := kR_ HO_385001 hb; replace HO_391001 := kR_ HO_391001 hb; replace HO_397001 := kR_ HO_397001 hb; replace BK384 := kb_ BK384 hb; replace BK390 := kb_ BK390 hb; replace BK396 := kb_ BK396 hb; replace HB := kB_ HB hb; (try clear hb); (try clear hb2); (try clear hk); (try clear hi)))
        repeat (go_quiet (first | (go_at_call 10; (with_reducible refine (impl_NetOk.calls t385 _ _ t386 false _ ?side1 ?side2 A112.out).mono ?_); (case side1 => exact nc_ (rR3 HO_391001.out).2.2); (case side2 => exact (rR3 HO_391001.out).2.1); rintro e w127 ⟨rfl, hb⟩; replace HO_4 := kR_ HO_4 hb; replace HO_385001 := kR_ HO_385001 hb; replace HO_391001 := kR_ HO_391001 hb; replace HO_397001 := kR_ HO_397001 hb; replace BK384 := kb_ BK384 hb; replace BK390 := kb_ BK390 hb; replace BK396 := kb_ BK396 hb; replace HB := kB_ HB hb; (try clear hb); (try clear hb2); (try clear hk); (try clear hi))); try go_wp2_with (first | (go_at_call 10; (with_reducible refine (impl_NetOk.calls t385 _ _ t386 false _ ?side1 ?side2 A112.out).mono ?_); (case side1 => exact nc_ (rR3 HO_391001.out).2.2); (case side2 => exact (rR3 HO_391001.out).2.1); rintro e w127 ⟨rfl, hb⟩; replace HO_4 := kR_ HO_4 hb; replace HO_385001 := kR_ HO_385001 hb; replace HO_391001 := kR_ HO_391001 hb; replace HO_397001 := kR_ HO_397001 hb; replace BK384 := kb_ BK384 hb; replace BK390 := kb_ BK390 hb; replace BK396 := kb_ BK396 hb; replace HB := kB_ HB hb; (try clear hb); (try clear hb2); (try clear hk); (try clear hi))))
        go_ret
        exact ⟨nw_, ne_ HB.out⟩

       subst c113
       have H1 : (some (t385 == (t378.length : Int))) = some r := by rw [if_pos rfl] at H; exact H
       clear H
       have H := H1
       clear H1
       obtain rfl := Option.some.inj H
       have hnb114 := NB384_390.out
       have hnc114 := NB390_384.out
       have hnb115 := NB384_396.out
       have hnc115 := NB396_384.out
       obtain ⟨hcz116_0, hcz116_1, hfz116_0, hfz116_1⟩ := cz2_ BK384.out
       have hnb117 := NB390_396.out
       have hnc117 := NB396_390.out
       obtain ⟨hcz118_0, hcz118_1, hfz118_0, hfz118_1⟩ := cz2_ BK390.out
       go_wp2_with (first | (go_at_call 10; (with_reducible refine (impl_NetOk.calls t385 _ _ t386 true _ ?side1 ?side2 A112.out).mono ?_); (case side1 => exact nc_ (rR3 HO_391001.out).2.2); (case side2 => exact (rR3 HO_391001.out).2.1); rintro e w119 ⟨rfl, hb⟩; replace HO_4 := kR_ HO_4 hb; replace HO_385001 := kR_ HO_385001 hb; replace HO_391001 := kR_ HO_391001 hb; replace HO_397001 := kR_ HO_397001 hb; replace BK384 := kb_ BK384 hb; replace BK390 := kb_ BK390 hb; replace BK396 := kb_ BK396 hb; replace HB := kB_ HB hb; (try clear hb); (try clear hb2); (try clear hk); (try clear hi); obtain ⟨hcz120_0, hcz120_1, hfz120_0, hfz120_1⟩ := cz2_ BK390.out; obtain ⟨hcz121_0, hcz121_1, hfz121_0, hfz121_1⟩ := cz2_ BK384.out))
       repeat (go_quiet (first | (go_at_call 10; (with_reducible refine (impl_NetOk.calls t385 _ _ t386 true _ ?side1 ?side2 A112.out).mono ?_); (case side1 => exact nc_ (rR3 HO_391001.out).2.2); (case side2 => exact (rR3 HO_391001.out).2.1); rintro e w119 ⟨rfl, hb⟩; replace HO_4 := kR_ HO_4 hb; replace HO_385001 := kR_ HO_385001 hb; replace HO_391001 := kR_ HO_391001 hb; replace HO_397001 := kR_ HO_397001 hb; replace BK384 := kb_ BK384 hb; replace BK390 := kb_ BK390 hb; replace BK396 := kb_ BK396 hb; replace HB := kB_ HB hb; (try clear hb); (try clear hb2); (try clear hk); (try clear hi); obtain ⟨hcz120_0, hcz120_1, hfz120_0, hfz120_1⟩ := cz2_ BK390.out; obtain ⟨hcz121_0, hcz121_1, hfz121_0, hfz121_1⟩ := cz2_ BK384.out)); try go_wp2_with (first | (go_at_call 10; (with_reducible refine (impl_NetOk.calls t385 _ _ t386 true _ ?side1 ?side2 A112.out).mono ?_); (case side1 => exact nc_ (rR3 HO_391001.out).2.2); (case side2 => exact (rR3 HO_391001.out).2.1); rintro e w119 ⟨rfl, hb⟩; replace HO_4 := kR_ HO_4 hb; replace HO_385001 := kR_ HO_385001 hb; replace HO_391001 := kR_ HO_391001 hb; replace HO_397001 := kR_ HO_397001 hb; replace BK384 := kb_ BK384 hb; replace BK390 := kb_ BK390 hb; replace BK396 := kb_ BK396 hb; replace HB := kB_ HB hb; (try clear hb); (try clear hb2); (try clear hk); (try clear hi); obtain ⟨hcz120_0, hcz120_1, hfz120_0, hfz120_1⟩ := cz2_ BK390.out; obtain ⟨hcz121_0, hcz121_1, hfz121_0, hfz121_1⟩ := cz2_ BK384.out)))
       go_ret
       exact ⟨nw_, ne_ HB.out⟩
      rw [if_pos c48] at H
      have c48b0 : decide (x9_2 < t377) = true := decide_eq_true c48
      clear c48
      replace H := Option.bind_eq_some_iff.mp H
      obtain ⟨t400, A490, H⟩ := H
      replace H : (laws_FnTurnNet.l1 k2 t381 x9_2 t400 0 t377 t378 t385 t386) = some r := H
      have A49 := Aside0.mk A490
      clear A490
      have H' := Aside0.mk H
      clear H
      have hnb50 := NB384_390.out
      have hnc50 := NB390_384.out
      have hnb51 := NB384_396.out
      have hnc51 := NB396_384.out
      obtain ⟨hcz52_0, hcz52_1, hfz52_0, hfz52_1⟩ := cz2_ BK384.out
      go_wp2_with (first | (go_at_call 8; (with_reducible refine (impl_TurnAll.calls k2 t377 _ _ t378 _ _ t381 x9_2 t400 _ ?side1 ?side2 ?side3 ?side4 A49.out).mono ?_); (case side1 => exact nc_ (rR3 HO_385001.out).2.2); (case side2 => exact (rR3 HO_385001.out).2.1); (case side3 => exact nc_ (rR3 HO_4.out).2.2); (case side4 => exact (rR3 HO_4.out).2.1); rintro e w53 ⟨v401, rfl, ho0, hb⟩; have HO402 := Aside0.mk (Kd.R_lower ho0 (below_size (ne_ HB.out))); replace HO_4 := kR_ HO_4 hb; replace HO_385001 := kR_ HO_385001 hb; replace HO_391001 := kR_ HO_391001 hb; replace HO_397001 := kR_ HO_397001 hb; replace BK384 := kb_ BK384 hb; replace BK390 := kb_ BK390 hb; replace BK396 := kb_ BK396 hb; replace HB := kB_ HB hb; (try clear hb); (try clear hb2); (try clear hk); (try clear hi); (try clear ho0)))
      repeat (go_quiet (first | (go_at_call 8; (with_reducible refine (impl_TurnAll.calls k2 t377 _ _ t378 _ _ t381 x9_2 t400 _ ?side1 ?side2 ?side3 ?side4 A49.out).mono ?_); (case side1 => exact nc_ (rR3 HO_385001.out).2.2); (case side2 => exact (rR3 HO_385001.out).2.1); (case side3 => exact nc_ (rR3 HO_4.out).2.2); (case side4 => exact (rR3 HO_4.out).2.1); rintro e w53 ⟨v401, rfl, ho0, hb⟩; have HO402 := Aside0.mk (Kd.R_lower ho0 (below_size (ne_ HB.out))); replace HO_4 := kR_ HO_4 hb; replace HO_385001 := kR_ HO_385001 hb; replace HO_391001 := kR_ HO_391001 hb; replace HO_397001 := kR_ HO_397001 hb; replace BK384 := kb_ BK384 hb; replace BK390 := kb_ BK390 hb; replace BK396 := kb_ BK396 hb; replace HB := kB_ HB hb; (try clear hb); (try clear hb2); (try clear hk); (try clear hi); (try clear ho0))); try go_wp2_with (first | (go_at_call 8; (with_reducible refine (impl_TurnAll.calls k2 t377 _ _ t378 _ _ t381 x9_2 t400 _ ?side1 ?side2 ?side3 ?side4 A49.out).mono ?_); (case side1 => exact nc_ (rR3 HO_385001.out).2.2); (case side2 => exact (rR3 HO_385001.out).2.1); (case side3 => exact nc_ (rR3 HO_4.out).2.2); (case side4 => exact (rR3 HO_4.out).2.1); rintro e w53 ⟨v401, rfl, ho0, hb⟩; have HO402 := Aside0.mk (Kd.R_lower ho0 (below_size (ne_ HB.out))); replace HO_4 := kR_ HO_4 hb; replace HO_385001 := kR_ HO_385001 hb; replace HO_391001 := kR_ HO_391001 hb; replace HO_397001 := kR_ HO_397001 hb; replace BK384 := kb_ BK384 hb; replace BK390 := kb_ BK390 hb; replace BK396 := kb_ BK396 hb; replace HB := kB_ HB hb; (try clear hb); (try clear hb2); (try clear hk); (try clear hi); (try clear ho0))))
      go_loopg [11] k2 (fun kq v11 w' => ∃ (x11_3 : Int), v11 = .int .i64 x11_3 ∧ Aside0 (laws_FnTurnNet.l1 kq t381 x9_2 t400 x11_3 t377 t378 t385 t386 = some r) ∧ Aside0 (kq ≤ k2) ∧ Aside0 (Kd.R k60 60 w' w.heap.size (fun _ => True) (.slice Ao11 t381.length co11) t381) ∧ Aside0 (Kd.R (Kd.int .i64) 3 w' w.heap.size (fun _ => True) v401 t400) ∧ Aside0 (Kd.R k36 36 w' w.heap.size (fun k_ => some k_ ≠ ((.slice Ao16 t386.length co16) : Value).ownBlock ∧ some k_ ≠ ((.slice Ao23 t392.length co23) : Value).ownBlock) (.slice Ao10 t378.length co10) t378) ∧ Aside0 (Kd.R k36 36 w' w.heap.size (fun k_ => some k_ ≠ ((.slice Ao10 t378.length co10) : Value).ownBlock ∧ some k_ ≠ ((.slice Ao23 t392.length co23) : Value).ownBlock) (.slice Ao16 t386.length co16) t386) ∧ Aside0 (Kd.R k36 36 w' w.heap.size (fun k_ => some k_ ≠ ((.slice Ao10 t378.length co10) : Value).ownBlock ∧ some k_ ≠ ((.slice Ao16 t386.length co16) : Value).ownBlock) (.slice Ao23 t392.length co23) t392) ∧ Aside0 (w'.heap[gb384]? = some (.cells #[.int .i64 t377, (.slice Ao10 t378.length co10)] 25 (0, 0))) ∧ Aside0 (w'.heap[gb390]? = some (.cells #[.int .i64 t385, (.slice Ao16 t386.length co16)] 25 (0, 0))) ∧ Aside0 (w'.heap[gb396]? = some (.cells #[.int .i64 t391, (.slice Ao23 t392.length co23)] 25 (0, 0))) ∧ Aside0 (Below w.heap.size w w'))
      case atStart => exact ⟨(0), ns_, H', ⟨Nat.le_refl _⟩, ⟨nr_ HO_4.out⟩, ⟨nr_ HO402.out⟩, ⟨nr_ HO_385001.out⟩, ⟨nr_ HO_391001.out⟩, ⟨nr_ HO_397001.out⟩, ⟨nb_ BK384.out⟩, ⟨nb_ BK390.out⟩, ⟨nb_ BK396.out⟩, ⟨ne_ HB.out⟩⟩
      case round =>
       clear H'
       try clear c2
       try clear c2b0
       try clear c2b1
       try clear c39
       try clear c48
       try clear c48b0
       try clear hcz15_0
       try clear hcz15_1
       try clear hcz17_0
       try clear hcz17_1
       try clear hcz22_0
       try clear hcz22_1
       try clear hcz52_0
       try clear hcz52_1
       try clear hcz9_0
       try clear hcz9_1
       try clear hfz15_0
       try clear hfz15_1
       try clear hfz17_0
       try clear hfz17_1
       try clear hfz22_0
       try clear hfz22_1
       try clear hfz52_0
       try clear hfz52_1
       try clear hfz9_0
       try clear hfz9_1
       obtain ⟨x11_3, rfl, HA, HK3, HO_4, HO_10, HO_385001, HO_391001, HO_397001, BK384, BK390, BK396, HB⟩ := hrel
       cases gk with
       | zero => exact absurd HA.out (by simp [laws_FnTurnNet.l1])
       | succ k3 =>
        have H := HA.out
        clear HA
        simp only [laws_FnTurnNet.l1] at H
        by_cases c54 : x11_3 < t377
        rotate_left
        ·rw [if_neg c54] at H
         have c54b0 : decide (x11_3 < t377) = false := decide_eq_false c54
         clear c54
         have H' := Aside0.mk H
         clear H
         have hnb109 := NB384_390.out
         have hnc109 := NB390_384.out
         have hnb110 := NB384_396.out
         have hnc110 := NB396_384.out
         obtain ⟨hcz111_0, hcz111_1, hfz111_0, hfz111_1⟩ := cz2_ BK384.out
         go_wp2
         repeat (go_quiet (fail); try go_wp2)
         go_roundg k3
         case measure => have := HJ5.out; have := HK2.out; have := HK3.out; omega
         case rel => exact ⟨(wrap64 (x9_2 + 1)), ns_, H', ⟨by have := HJ5.out; have := HK2.out; have := HK3.out; omega⟩, ⟨nr_ HO_4.out⟩, ⟨nr_ HO_385001.out⟩, ⟨nr_ HO_391001.out⟩, ⟨nr_ HO_397001.out⟩, ⟨nb_ BK384.out⟩, ⟨nb_ BK390.out⟩, ⟨nb_ BK396.out⟩, ⟨ne_ HB.out⟩⟩
        rw [if_pos c54] at H
        have c54b0 : decide (x11_3 < t377) = true := decide_eq_true c54
        clear c54
        have HC55 := Aside0.mk H
        clear H
        have hnb56 := NB384_390.out
        have hnc56 := NB390_384.out
        have hnb57 := NB384_396.out
        have hnc57 := NB396_384.out
        obtain ⟨hcz58_0, hcz58_1, hfz58_0, hfz58_1⟩ := cz2_ BK384.out
        go_upto_if 75 with (fail)
        repeat (go_quiet (fail); go_upto_if 75 with (fail))
        go_cut [12] (fun v12 wc => ∃ (kq : Nat) (x12_54 : Int), v12 = .int .i64 x12_54 ∧ Aside0 (laws_FnTurnNet.j3 kq t381 x9_2 t400 x11_3 x12_54 t377 t378 t385 t386 = some r) ∧ Aside0 (kq ≤ k3) ∧ Aside0 (Kd.R k60 60 wc w.heap.size (fun _ => True) (.slice Ao11 t381.length co11) t381) ∧ Aside0 (Kd.R (Kd.int .i64) 3 wc w.heap.size (fun _ => True) v401 t400) ∧ Aside0 (Kd.R k36 36 wc w.heap.size (fun k_ => some k_ ≠ ((.slice Ao16 t386.length co16) : Value).ownBlock ∧ some k_ ≠ ((.slice Ao23 t392.length co23) : Value).ownBlock) (.slice Ao10 t378.length co10) t378) ∧ Aside0 (Kd.R k36 36 wc w.heap.size (fun k_ => some k_ ≠ ((.slice Ao10 t378.length co10) : Value).ownBlock ∧ some k_ ≠ ((.slice Ao23 t392.length co23) : Value).ownBlock) (.slice Ao16 t386.length co16) t386) ∧ Aside0 (Kd.R k36 36 wc w.heap.size (fun k_ => some k_ ≠ ((.slice Ao10 t378.length co10) : Value).ownBlock ∧ some k_ ≠ ((.slice Ao16 t386.length co16) : Value).ownBlock) (.slice Ao23 t392.length co23) t392) ∧ Aside0 (wc.heap[gb384]? = some (.cells #[.int .i64 t377, (.slice Ao10 t378.length co10)] 25 (0, 0))) ∧ Aside0 (wc.heap[gb390]? = some (.cells #[.int .i64 t385, (.slice Ao16 t386.length co16)] 25 (0, 0))) ∧ Aside0 (wc.heap[gb396]? = some (.cells #[.int .i64 t391, (.slice Ao23 t392.length co23)] 25 (0, 0))) ∧ Aside0 (Below w.heap.size w wc))
        case first =>
         have H := HC55.out
         clear HC55
         by_cases c59 : x11_3 = x9_2
         rotate_left
         ·rw [if_neg c59] at H
          have c59b0 : (x11_3 == x9_2) = false := beq_eq_false_iff_ne.mpr c59
          have c59b1 : (x11_3 != x9_2) = true := bne_iff_ne.mpr c59
          (first | rw [c59b0] | (simp only [i64_w, i32_w]; rw [c59b0]) | skip)
          have H' := Aside0.mk H
          clear H
          go_wp2
          repeat (go_quiet (fail); try go_wp2)
          go_meet
          case rel => exact ⟨_, (99999), ns_, H', ⟨by have := HJ5.out; have := HK2.out; have := HK3.out; first | omega | exact Nat.le_refl _⟩, ⟨nr_ HO_4.out⟩, ⟨nr_ HO_10.out⟩, ⟨nr_ HO_385001.out⟩, ⟨nr_ HO_391001.out⟩, ⟨nr_ HO_397001.out⟩, ⟨nb_ BK384.out⟩, ⟨nb_ BK390.out⟩, ⟨nb_ BK396.out⟩, ⟨ne_ HB.out⟩⟩
         rw [if_pos c59] at H
         have c59b0 : (x11_3 == x9_2) = true := beq_iff_eq.mpr c59
         have c59b1 : (x11_3 != x9_2) = false := bne_eq_false_iff_eq.mpr c59
         clear c59
         (first | rw [c59b0] | (simp only [i64_w, i32_w]; rw [c59b0]) | skip)
         have H' := Aside0.mk H
         clear H
         go_wp2
         repeat (go_quiet (fail); try go_wp2)
         go_meet
         case rel => exact ⟨_, (0), ns_, H', ⟨by have := HJ5.out; have := HK2.out; have := HK3.out; first | omega | exact Nat.le_refl _⟩, ⟨nr_ HO_4.out⟩, ⟨nr_ HO_10.out⟩, ⟨nr_ HO_385001.out⟩, ⟨nr_ HO_391001.out⟩, ⟨nr_ HO_397001.out⟩, ⟨nb_ BK384.out⟩, ⟨nb_ BK390.out⟩, ⟨nb_ BK396.out⟩, ⟨ne_ HB.out⟩⟩
        case rest =>
         clear HC55
         try clear c2
         try clear c2b0
         try clear c2b1
         try clear c39
         try clear c48
         try clear c48b0
         try clear c54
         try clear c54b0
         try clear hcz15_0
         try clear hcz15_1
         try clear hcz17_0
         try clear hcz17_1
         try clear hcz22_0
         try clear hcz22_1
         try clear hcz52_0
         try clear hcz52_1
         try clear hcz58_0
         try clear hcz58_1
         try clear hcz9_0
         try clear hcz9_1
         try clear hfz15_0
         try clear hfz15_1
         try clear hfz17_0
         try clear hfz17_1
         try clear hfz22_0
         try clear hfz22_1
         try clear hfz52_0
         try clear hfz52_1
         try clear hfz58_0
         try clear hfz58_1
         try clear hfz9_0
         try clear hfz9_1
         obtain ⟨kq, x12_54, rfl, HA, HJ54, HO_4, HO_10, HO_385001, HO_391001, HO_397001, BK384, BK390, BK396, HB⟩ := hcut
         cases kq with
         | zero => exact absurd HA.out (by simp [laws_FnTurnNet.j3])
         | succ kj54 =>
          have H := HA.out
          clear HA
          simp only [laws_FnTurnNet.j3] at H
          have H' := Aside0.mk H
          clear H
          go_wp2
          repeat (go_quiet (fail); try go_wp2)
          go_loopg [12, 13] kj54 (fun kq v12 v13 w' => ∃ (x12_5 : Int) (x13_5 : Int), v12 = .int .i64 x12_5 ∧ v13 = .int .i64 x13_5 ∧ Aside0 (laws_FnTurnNet.l2 kq t381 x9_2 t400 x11_3 x12_5 x13_5 t377 t378 t385 t386 = some r) ∧ Aside0 (kq ≤ kj54) ∧ Aside0 (Kd.R k60 60 w' w.heap.size (fun _ => True) (.slice Ao11 t381.length co11) t381) ∧ Aside0 (Kd.R (Kd.int .i64) 3 w' w.heap.size (fun _ => True) v401 t400) ∧ Aside0 (Kd.R k36 36 w' w.heap.size (fun k_ => some k_ ≠ ((.slice Ao16 t386.length co16) : Value).ownBlock ∧ some k_ ≠ ((.slice Ao23 t392.length co23) : Value).ownBlock) (.slice Ao10 t378.length co10) t378) ∧ Aside0 (Kd.R k36 36 w' w.heap.size (fun k_ => some k_ ≠ ((.slice Ao10 t378.length co10) : Value).ownBlock ∧ some k_ ≠ ((.slice Ao23 t392.length co23) : Value).ownBlock) (.slice Ao16 t386.length co16) t386) ∧ Aside0 (Kd.R k36 36 w' w.heap.size (fun k_ => some k_ ≠ ((.slice Ao10 t378.length co10) : Value).ownBlock ∧ some k_ ≠ ((.slice Ao16 t386.length co16) : Value).ownBlock) (.slice Ao23 t392.length co23) t392) ∧ Aside0 (w'.heap[gb384]? = some (.cells #[.int .i64 t377, (.slice Ao10 t378.length co10)] 25 (0, 0))) ∧ Aside0 (w'.heap[gb390]? = some (.cells #[.int .i64 t385, (.slice Ao16 t386.length co16)] 25 (0, 0))) ∧ Aside0 (w'.heap[gb396]? = some (.cells #[.int .i64 t391, (.slice Ao23 t392.length co23)] 25 (0, 0))) ∧ Aside0 (Below w.heap.size w w'))
          case atStart => exact ⟨(x12_54), (0), ns_, ns_, H', ⟨Nat.le_refl _⟩, ⟨nr_ HO_4.out⟩, ⟨nr_ HO_10.out⟩, ⟨nr_ HO_385001.out⟩, ⟨nr_ HO_391001.out⟩, ⟨nr_ HO_397001.out⟩, ⟨nb_ BK384.out⟩, ⟨nb_ BK390.out⟩, ⟨nb_ BK396.out⟩, ⟨ne_ HB.out⟩⟩
          case round =>
           clear H'
           try clear c2
           try clear c2b0
           try clear c2b1
           try clear c39
           try clear c48
           try clear c48b0
           try clear c54
           try clear c54b0
           try clear hcz15_0
           try clear hcz15_1
           try clear hcz17_0
           try clear hcz17_1
           try clear hcz22_0
           try clear hcz22_1
           try clear hcz52_0
           try clear hcz52_1
           try clear hcz58_0
           try clear hcz58_1
           try clear hcz9_0
           try clear hcz9_1
           try clear hfz15_0
           try clear hfz15_1
           try clear hfz17_0
           try clear hfz17_1
           try clear hfz22_0
           try clear hfz22_1
           try clear hfz52_0
           try clear hfz52_1
           try clear hfz58_0
           try clear hfz58_1
           try clear hfz9_0
           try clear hfz9_1
           obtain ⟨x12_5, x13_5, rfl, rfl, HA, HK5, HO_4, HO_10, HO_385001, HO_391001, HO_397001, BK384, BK390, BK396, HB⟩ := hrel
           cases gk with
           | zero => exact absurd HA.out (by simp [laws_FnTurnNet.l2])
           | succ k5 =>
            have H := HA.out
            clear HA
            simp only [laws_FnTurnNet.l2] at H
            by_cases c60 : x13_5 < (t378.length : Int)
            rotate_left
            ·rw [if_neg c60] at H
             have c60b0 : decide (x13_5 < (t378.length : Int)) = false := decide_eq_false c60
             clear c60
             by_cases c98 : 0 ≤ x11_3
             rotate_left
             ·rw [if_neg c98] at H
              exact absurd H (by simp)
             rw [if_pos c98] at H
             have c98b0 : decide (0 ≤ x11_3) = true := decide_eq_true c98
             clear c98
             by_cases c99 : x11_3 < (t400.length : Int)
             rotate_left
             ·rw [if_neg c99] at H
              exact absurd H (by simp)
             rw [if_pos c99] at H
             have c99b0 : decide (x11_3 < (t400.length : Int)) = true := decide_eq_true c99
             clear c99
             by_cases c100 : x12_5 = (rd t400 x11_3)
             rotate_left
             ·rw [if_neg c100] at H
              have c100b0 : (x12_5 == (rd t400 x11_3)) = false := beq_eq_false_iff_ne.mpr c100
              have c100b1 : (x12_5 != (rd t400 x11_3)) = true := bne_iff_ne.mpr c100
              obtain rfl := Option.some.inj H
              have hnb105 := NB384_390.out
              have hnc105 := NB390_384.out
              have hnb106 := NB384_396.out
              have hnc106 := NB396_384.out
              obtain ⟨hcz107_0, hcz107_1, hfz107_0, hfz107_1⟩ := cz2_ BK384.out
              obtain ⟨Ao108, co108, eo108⟩ := Kd.R_slice HO_10.out
              subst eo108
              have p403 : 0 ≤ (x11_3 : Int) := of_decide_eq_true nx_
              have q403 : x11_3 < (t400.length : Int) := of_decide_eq_true nx_
              obtain ⟨ad403, e403, hx403_0⟩ := Kd.at_int (rR3 HO_10.out).2.2 x11_3 p403 q403
              cases e403
              replace p403 := eq_true p403
              replace q403 := eq_true q403
              go_wp2
              repeat (go_quiet (fail); try go_wp2)
              go_ret
              exact ⟨nw_, ne_ HB.out⟩
             rw [if_pos c100] at H
             have c100b0 : (x12_5 == (rd t400 x11_3)) = true := beq_iff_eq.mpr c100
             have c100b1 : (x12_5 != (rd t400 x11_3)) = false := bne_eq_false_iff_eq.mpr c100
             clear c100
             have H' := Aside0.mk H
             clear H
             have hnb101 := NB384_390.out
             have hnc101 := NB390_384.out
             have hnb102 := NB384_396.out
             have hnc102 := NB396_384.out
             obtain ⟨hcz103_0, hcz103_1, hfz103_0, hfz103_1⟩ := cz2_ BK384.out
             obtain ⟨Ao104, co104, eo104⟩ := Kd.R_slice HO_10.out
             subst eo104
             have p403 : 0 ≤ (x11_3 : Int) := of_decide_eq_true nx_
             have q403 : x11_3 < (t400.length : Int) := of_decide_eq_true nx_
             obtain ⟨ad403, e403, hx403_0⟩ := Kd.at_int (rR3 HO_10.out).2.2 x11_3 p403 q403
             cases e403
             replace p403 := eq_true p403
             replace q403 := eq_true q403
             go_wp2
             repeat (go_quiet (fail); try go_wp2)
             go_roundg k5
             case measure => have := HJ5.out; have := HK2.out; have := HK3.out; have := HJ54.out; have := HK5.out; omega
             case rel => exact ⟨(wrap64 (x11_3 + 1)), ns_, H', ⟨by have := HJ5.out; have := HK2.out; have := HK3.out; have := HJ54.out; have := HK5.out; omega⟩, ⟨nr_ HO_4.out⟩, ⟨nr_ HO_10.out⟩, ⟨nr_ HO_385001.out⟩, ⟨nr_ HO_391001.out⟩, ⟨nr_ HO_397001.out⟩, ⟨nb_ BK384.out⟩, ⟨nb_ BK390.out⟩, ⟨nb_ BK396.out⟩, ⟨ne_ HB.out⟩⟩
            rw [if_pos c60] at H
            have c60b0 : decide (x13_5 < (t378.length : Int)) = true := decide_eq_true c60
            clear c60
            replace H := Option.bind_eq_some_iff.mp H
            obtain ⟨t404, A610, H⟩ := H
            replace H : (laws_FnTurnNet.l3 k5 t381 x9_2 t400 x11_3 x12_5 x13_5 t404 0 t377 t378 t385 t386) = some r := H
            have A61 := Aside0.mk A610
            clear A610
            have H' := Aside0.mk H
            clear H
            have hnb62 := NB384_390.out
            have hnc62 := NB390_384.out
            have hnb63 := NB384_396.out
            have hnc63 := NB396_384.out
            obtain ⟨hcz64_0, hcz64_1, hfz64_0, hfz64_1⟩ := cz2_ BK384.out
            have hnb65 := NB390_396.out
            have hnc65 := NB396_390.out
            obtain ⟨hcz66_0, hcz66_1, hfz66_0, hfz66_1⟩ := cz2_ BK390.out
            go_wp2_with (first | (go_at_call 9; (with_reducible refine (impl_NearAll.calls k5 t385 _ _ t386 x13_5 t404 _ ?side1 ?side2 A61.out).mono ?_); (case side1 => exact nc_ (rR3 HO_391001.out).2.2); (case side2 => exact (rR3 HO_391001.out).2.1); rintro e w67 ⟨v405, rfl, ho0, hb⟩; have HO406 := Aside0.mk (Kd.R_lower (Kd.R_new' ho0 (Kd.R_lt (nr_ HO_10.out))) (below_size (ne_ HB.out))); replace HO_4 := kR_ HO_4 hb; replace HO_10 := Aside0.mk (Kd.R_elder' (nr_ HO_10.out) (Kd.R_base ho0) hb); replace HO_385001 := kR_ HO_385001 hb; replace HO_391001 := kR_ HO_391001 hb; replace HO_397001 := kR_ HO_397001 hb; replace BK384 := kb_ BK384 hb; replace BK390 := kb_ BK390 hb; replace BK396 := kb_ BK396 hb; replace HB := kB_ HB hb; (try clear hb); (try clear hb2); (try clear hk); (try clear hi); (try clear ho0)))
            repeat (go_quiet (first | (go_at_call 9; (with_reducible refine (impl_NearAll.calls k5 t385 _ _ t386 x13_5 t404 _ ?side1 ?side2 A61.out).mono ?_); (case side1 => exact nc_ (rR3 HO_391001.out).2.2); (case side2 => exact (rR3 HO_391001.out).2.1); rintro e w67 ⟨v405, rfl, ho0, hb⟩; have HO406 := Aside0.mk (Kd.R_lower (Kd.R_new' ho0 (Kd.R_lt (nr_ HO_10.out))) (below_size (ne_ HB.out))); replace HO_4 := kR_ HO_4 hb; replace HO_10 := Aside0.mk (Kd.R_elder' (nr_ HO_10.out) (Kd.R_base ho0) hb); replace HO_385001 := kR_ HO_385001 hb; replace HO_391001 := kR_ HO_391001 hb; replace HO_397001 := kR_ HO_397001 hb; replace BK384 := kb_ BK384 hb; replace BK390 := kb_ BK390 hb; replace BK396 := kb_ BK396 hb; replace HB := kB_ HB hb; (try clear hb); (try clear hb2); (try clear hk); (try clear hi); (try clear ho0))); try go_wp2_with (first | (go_at_call 9; (with_reducible refine (impl_NearAll.calls k5 t385 _ _ t386 x13_5 t404 _ ?side1 ?side2 A61.out).mono ?_); (case side1 => exact nc_ (rR3 HO_391001.out).2.2); (case side2 => exact (rR3 HO_391001.out).2.1); rintro e w67 ⟨v405, rfl, ho0, hb⟩; have HO406 := Aside0.mk (Kd.R_lower (Kd.R_new' ho0 (Kd.R_lt (nr_ HO_10.out))) (below_size (ne_ HB.out))); replace HO_4 := kR_ HO_4 hb; replace HO_10 := Aside0.mk (Kd.R_elder' (nr_ HO_10.out) (Kd.R_base ho0) hb); replace HO_385001 := kR_ HO_385001 hb; replace HO_391001 := kR_ HO_391001 hb; replace HO_397001 := kR_ HO_397001 hb; replace BK384 := kb_ BK384 hb; replace BK390 := kb_ BK390 hb; replace BK396 := kb_ BK396 hb; replace HB := kB_ HB hb; (try clear hb); (try clear hb2); (try clear hk); (try clear hi); (try clear ho0))))
            go_loopg [12, 15] k5 (fun kq v12 v15 w' => ∃ (x12_6 : Int) (x15_6 : Int), v12 = .int .i64 x12_6 ∧ v15 = .int .i64 x15_6 ∧ Aside0 (laws_FnTurnNet.l3 kq t381 x9_2 t400 x11_3 x12_6 x13_5 t404 x15_6 t377 t378 t385 t386 = some r) ∧ Aside0 (kq ≤ k5) ∧ Aside0 (Kd.R k60 60 w' w.heap.size (fun _ => True) (.slice Ao11 t381.length co11) t381) ∧ Aside0 (Kd.R (Kd.int .i64) 3 w' w.heap.size (fun k_ => some k_ ≠ (v405 : Value).ownBlock) v401 t400) ∧ Aside0 (Kd.R (Kd.int .i64) 3 w' w.heap.size (fun k_ => some k_ ≠ (v401 : Value).ownBlock) v405 t404) ∧ Aside0 (Kd.R k36 36 w' w.heap.size (fun k_ => some k_ ≠ ((.slice Ao16 t386.length co16) : Value).ownBlock ∧ some k_ ≠ ((.slice Ao23 t392.length co23) : Value).ownBlock) (.slice Ao10 t378.length co10) t378) ∧ Aside0 (Kd.R k36 36 w' w.heap.size (fun k_ => some k_ ≠ ((.slice Ao10 t378.length co10) : Value).ownBlock ∧ some k_ ≠ ((.slice Ao23 t392.length co23) : Value).ownBlock) (.slice Ao16 t386.length co16) t386) ∧ Aside0 (Kd.R k36 36 w' w.heap.size (fun k_ => some k_ ≠ ((.slice Ao10 t378.length co10) : Value).ownBlock ∧ some k_ ≠ ((.slice Ao16 t386.length co16) : Value).ownBlock) (.slice Ao23 t392.length co23) t392) ∧ Aside0 (w'.heap[gb384]? = some (.cells #[.int .i64 t377, (.slice Ao10 t378.length co10)] 25 (0, 0))) ∧ Aside0 (w'.heap[gb390]? = some (.cells #[.int .i64 t385, (.slice Ao16 t386.length co16)] 25 (0, 0))) ∧ Aside0 (w'.heap[gb396]? = some (.cells #[.int .i64 t391, (.slice Ao23 t392.length co23)] 25 (0, 0))) ∧ Aside0 (Below w.heap.size w w'))
            case atStart => exact ⟨(x12_5), (0), ns_, ns_, H', ⟨Nat.le_refl _⟩, ⟨nr_ HO_4.out⟩, ⟨by (with_reducible repeat (first | apply rA3 | apply rN3 | apply rD3)); exact Kd.R_mono HO_10.out (fun _ hk => by first | exact hk.2 | trivial | simp_all)⟩, ⟨by (with_reducible repeat (first | apply rA3 | apply rN3 | apply rD3)); exact Kd.R_mono HO406.out (fun _ hk => by first | exact hk.2 | trivial | simp_all)⟩, ⟨nr_ HO_385001.out⟩, ⟨nr_ HO_391001.out⟩, ⟨nr_ HO_397001.out⟩, ⟨nb_ BK384.out⟩, ⟨nb_ BK390.out⟩, ⟨nb_ BK396.out⟩, ⟨ne_ HB.out⟩⟩
            case round =>
             clear H'
             try clear c2
             try clear c2b0
             try clear c2b1
             try clear c39
             try clear c48
             try clear c48b0
             try clear c54
             try clear c54b0
             try clear c60
             try clear c60b0
             try clear hcz15_0
             try clear hcz15_1
             try clear hcz17_0
             try clear hcz17_1
             try clear hcz22_0
             try clear hcz22_1
             try clear hcz52_0
             try clear hcz52_1
             try clear hcz58_0
             try clear hcz58_1
             try clear hcz64_0
             try clear hcz64_1
             try clear hcz66_0
             try clear hcz66_1
             try clear hcz9_0
             try clear hcz9_1
             try clear hfz15_0
             try clear hfz15_1
             try clear hfz17_0
             try clear hfz17_1
             try clear hfz22_0
             try clear hfz22_1
             try clear hfz52_0
             try clear hfz52_1
             try clear hfz58_0
             try clear hfz58_1
             try clear hfz64_0
             try clear hfz64_1
             try clear hfz66_0
             try clear hfz66_1
             try clear hfz9_0
             try clear hfz9_1
             obtain ⟨x12_6, x15_6, rfl, rfl, HA, HK6, HO_4, HO_10, HO_14, HO_385001, HO_391001, HO_397001, BK384, BK390, BK396, HB⟩ := hrel
             cases gk with
             | zero => exact absurd HA.out (by simp [laws_FnTurnNet.l3])
             | succ k6 =>
              have H := HA.out
              clear HA
              simp only [laws_FnTurnNet.l3] at H
              by_cases c68 : x15_6 < (t378.length : Int)
              rotate_left
              ·rw [if_neg c68] at H
               have c68b0 : decide (x15_6 < (t378.length : Int)) = false := decide_eq_false c68
               clear c68
               have H' := Aside0.mk H
               clear H
               have hnb95 := NB384_390.out
               have hnc95 := NB390_384.out
               have hnb96 := NB384_396.out
               have hnc96 := NB396_384.out
               obtain ⟨hcz97_0, hcz97_1, hfz97_0, hfz97_1⟩ := cz2_ BK384.out
               go_wp2
               repeat (go_quiet (fail); try go_wp2)
               go_roundg k6
               case measure => have := HJ5.out; have := HK2.out; have := HK3.out; have := HJ54.out; have := HK5.out; have := HK6.out; omega
               case rel => exact ⟨(x12_6), (wrap64 (x13_5 + 1)), ns_, ns_, H', ⟨by have := HJ5.out; have := HK2.out; have := HK3.out; have := HJ54.out; have := HK5.out; have := HK6.out; omega⟩, ⟨nr_ HO_4.out⟩, ⟨by (with_reducible repeat (first | apply rA3 | apply rN3 | apply rD3)); exact Kd.R_mono HO_10.out (fun _ hk => trivial)⟩, ⟨nr_ HO_385001.out⟩, ⟨nr_ HO_391001.out⟩, ⟨nr_ HO_397001.out⟩, ⟨nb_ BK384.out⟩, ⟨nb_ BK390.out⟩, ⟨nb_ BK396.out⟩, ⟨ne_ HB.out⟩⟩
              rw [if_pos c68] at H
              have c68b0 : decide (x15_6 < (t378.length : Int)) = true := decide_eq_true c68
              clear c68
              by_cases c69 : 0 ≤ x13_5
              rotate_left
              ·rw [if_neg c69] at H
               exact absurd H (by simp)
              rw [if_pos c69] at H
              have c69b0 : decide (0 ≤ x13_5) = true := decide_eq_true c69
              clear c69
              by_cases c70 : x13_5 < (t378.length : Int)
              rotate_left
              ·rw [if_neg c70] at H
               exact absurd H (by simp)
              rw [if_pos c70] at H
              have c70b0 : decide (x13_5 < (t378.length : Int)) = true := decide_eq_true c70
              clear c70
              by_cases c71 : ((rd_T36 t378 x13_5).f0) = x9_2
              rotate_left
              ·rw [if_neg c71] at H
               have c71b0 : (((rd_T36 t378 x13_5).f0) == x9_2) = false := beq_eq_false_iff_ne.mpr c71
               have c71b1 : (((rd_T36 t378 x13_5).f0) != x9_2) = true := bne_iff_ne.mpr c71
               have H' := Aside0.mk H
               clear H
               have hnb92 := NB384_390.out
               have hnc92 := NB390_384.out
               have hnb93 := NB384_396.out
               have hnc93 := NB396_384.out
               obtain ⟨hcz94_0, hcz94_1, hfz94_0, hfz94_1⟩ := cz2_ BK384.out
               have p407 : 0 ≤ (x13_5 : Int) := of_decide_eq_true nx_
               have q407 : x13_5 < (t378.length : Int) := of_decide_eq_true nx_
               obtain ⟨ad407, e407, hx407_0, hx407_1, hx407_2, hx407_3, hx407_4⟩ := at_T36 (rR3 HO_385001.out).2.2 x13_5 p407 q407
               cases e407
               replace p407 := eq_true p407
               replace q407 := eq_true q407
               go_wp2
               repeat (go_quiet (fail); try go_wp2)
               go_roundg k6
               case measure => have := HJ5.out; have := HK2.out; have := HK3.out; have := HJ54.out; have := HK5.out; have := HK6.out; omega
               case rel => exact ⟨(x12_6), (wrap64 (x15_6 + 1)), ns_, ns_, H', ⟨by have := HJ5.out; have := HK2.out; have := HK3.out; have := HJ54.out; have := HK5.out; have := HK6.out; omega⟩, ⟨nr_ HO_4.out⟩, ⟨nr_ HO_10.out⟩, ⟨nr_ HO_14.out⟩, ⟨nr_ HO_385001.out⟩, ⟨nr_ HO_391001.out⟩, ⟨nr_ HO_397001.out⟩, ⟨nb_ BK384.out⟩, ⟨nb_ BK390.out⟩, ⟨nb_ BK396.out⟩, ⟨ne_ HB.out⟩⟩
              rw [if_pos c71] at H
              have c71b0 : (((rd_T36 t378 x13_5).f0) == x9_2) = true := beq_iff_eq.mpr c71
              have c71b1 : (((rd_T36 t378 x13_5).f0) != x9_2) = false := bne_eq_false_iff_eq.mpr c71
              clear c71
              by_cases c72 : 0 ≤ x15_6
              rotate_left
              ·rw [if_neg c72] at H
               exact absurd H (by simp)
              rw [if_pos c72] at H
              have c72b0 : decide (0 ≤ x15_6) = true := decide_eq_true c72
              clear c72
              by_cases c73 : ((rd_T36 t378 x15_6).f1) = x11_3
              rotate_left
              ·rw [if_neg c73] at H
               have c73b0 : (((rd_T36 t378 x15_6).f1) == x11_3) = false := beq_eq_false_iff_ne.mpr c73
               have c73b1 : (((rd_T36 t378 x15_6).f1) != x11_3) = true := bne_iff_ne.mpr c73
               have H' := Aside0.mk H
               clear H
               have hnb89 := NB384_390.out
               have hnc89 := NB390_384.out
               have hnb90 := NB384_396.out
               have hnc90 := NB396_384.out
               obtain ⟨hcz91_0, hcz91_1, hfz91_0, hfz91_1⟩ := cz2_ BK384.out
               have p407 : 0 ≤ (x13_5 : Int) := of_decide_eq_true nx_
               have q407 : x13_5 < (t378.length : Int) := of_decide_eq_true nx_
               obtain ⟨ad407, e407, hx407_0, hx407_1, hx407_2, hx407_3, hx407_4⟩ := at_T36 (rR3 HO_385001.out).2.2 x13_5 p407 q407
               cases e407
               replace p407 := eq_true p407
               replace q407 := eq_true q407
               have p408 : 0 ≤ (x15_6 : Int) := of_decide_eq_true nx_
               have q408 : x15_6 < (t378.length : Int) := of_decide_eq_true nx_
               obtain ⟨ad408, e408, hx408_0, hx408_1, hx408_2, hx408_3, hx408_4⟩ := at_T36 (rR3 HO_385001.out).2.2 x15_6 p408 q408
               obtain rfl : ad407 = ad408 := (by injection e408)
               replace p408 := eq_true p408
               replace q408 := eq_true q408
               go_wp2
               repeat (go_quiet (fail); try go_wp2)
               go_roundg k6
               case measure => have := HJ5.out; have := HK2.out; have := HK3.out; have := HJ54.out; have := HK5.out; have := HK6.out; omega
               case rel => exact ⟨(x12_6), (wrap64 (x15_6 + 1)), ns_, ns_, H', ⟨by have := HJ5.out; have := HK2.out; have := HK3.out; have := HJ54.out; have := HK5.out; have := HK6.out; omega⟩, ⟨nr_ HO_4.out⟩, ⟨nr_ HO_10.out⟩, ⟨nr_ HO_14.out⟩, ⟨nr_ HO_385001.out⟩, ⟨nr_ HO_391001.out⟩, ⟨nr_ HO_397001.out⟩, ⟨nb_ BK384.out⟩, ⟨nb_ BK390.out⟩, ⟨nb_ BK396.out⟩, ⟨ne_ HB.out⟩⟩
              rw [if_pos c73] at H
              have c73b0 : (((rd_T36 t378 x15_6).f1) == x11_3) = true := beq_iff_eq.mpr c73
              have c73b1 : (((rd_T36 t378 x15_6).f1) != x11_3) = false := bne_eq_false_iff_eq.mpr c73
              clear c73
              by_cases c74 : x15_6 < (t404.length : Int)
              rotate_left
              ·rw [if_neg c74] at H
               exact absurd H (by simp)
              rw [if_pos c74] at H
              have c74b0 : decide (x15_6 < (t404.length : Int)) = true := decide_eq_true c74
              clear c74
              by_cases c75 : (rd t404 x15_6) < 99999
              rotate_left
              ·rw [if_neg c75] at H
               have c75b0 : decide ((rd t404 x15_6) < 99999) = false := decide_eq_false c75
               clear c75
               have H' := Aside0.mk H
               clear H
               have hnb85 := NB384_390.out
               have hnc85 := NB390_384.out
               have hnb86 := NB384_396.out
               have hnc86 := NB396_384.out
               obtain ⟨hcz87_0, hcz87_1, hfz87_0, hfz87_1⟩ := cz2_ BK384.out
               have p407 : 0 ≤ (x13_5 : Int) := of_decide_eq_true nx_
               have q407 : x13_5 < (t378.length : Int) := of_decide_eq_true nx_
               obtain ⟨ad407, e407, hx407_0, hx407_1, hx407_2, hx407_3, hx407_4⟩ := at_T36 (rR3 HO_385001.out).2.2 x13_5 p407 q407
               cases e407
               replace p407 := eq_true p407
               replace q407 := eq_true q407
               have p408 : 0 ≤ (x15_6 : Int) := of_decide_eq_true nx_
               have q408 : x15_6 < (t378.length : Int) := of_decide_eq_true nx_
               obtain ⟨ad408, e408, hx408_0, hx408_1, hx408_2, hx408_3, hx408_4⟩ := at_T36 (rR3 HO_385001.out).2.2 x15_6 p408 q408
               obtain rfl : ad407 = ad408 := (by injection e408)
               replace p408 := eq_true p408
               replace q408 := eq_true q408
               obtain ⟨Ao88, co88, eo88⟩ := Kd.R_slice HO_14.out
               subst eo88
               have p409 : 0 ≤ (x15_6 : Int) := of_decide_eq_true nx_
               have q409 : x15_6 < (t404.length : Int) := of_decide_eq_true nx_
               obtain ⟨ad409, e409, hx409_0⟩ := Kd.at_int (rR3 HO_14.out).2.2 x15_6 p409 q409
               cases e409
               replace p409 := eq_true p409
               replace q409 := eq_true q409
               go_wp2
               repeat (go_quiet (fail); try go_wp2)
               go_roundg k6
               case measure => have := HJ5.out; have := HK2.out; have := HK3.out; have := HJ54.out; have := HK5.out; have := HK6.out; omega
               case rel => exact ⟨(x12_6), (wrap64 (x15_6 + 1)), ns_, ns_, H', ⟨by have := HJ5.out; have := HK2.out; have := HK3.out; have := HJ54.out; have := HK5.out; have := HK6.out; omega⟩, ⟨nr_ HO_4.out⟩, ⟨nr_ HO_10.out⟩, ⟨nr_ HO_14.out⟩, ⟨nr_ HO_385001.out⟩, ⟨nr_ HO_391001.out⟩, ⟨nr_ HO_397001.out⟩, ⟨nb_ BK384.out⟩, ⟨nb_ BK390.out⟩, ⟨nb_ BK396.out⟩, ⟨ne_ HB.out⟩⟩
              rw [if_pos c75] at H
              have c75b0 : decide ((rd t404 x15_6) < 99999) = true := decide_eq_true c75
              clear c75
              by_cases c76 : (wrap64 (((rd_T36 t378 x13_5).f2) + (rd t404 x15_6))) < x12_6
              rotate_left
              ·rw [if_neg c76] at H
               have c76b0 : decide ((wrap64 (((rd_T36 t378 x13_5).f2) + (rd t404 x15_6))) < x12_6) = false := decide_eq_false c76
               clear c76
               have H' := Aside0.mk H
               clear H
               have hnb81 := NB384_390.out
               have hnc81 := NB390_384.out
               have hnb82 := NB384_396.out
               have hnc82 := NB396_384.out
               obtain ⟨hcz83_0, hcz83_1, hfz83_0, hfz83_1⟩ := cz2_ BK384.out
               have p407 : 0 ≤ (x13_5 : Int) := of_decide_eq_true nx_
               have q407 : x13_5 < (t378.length : Int) := of_decide_eq_true nx_
               obtain ⟨ad407, e407, hx407_0, hx407_1, hx407_2, hx407_3, hx407_4⟩ := at_T36 (rR3 HO_385001.out).2.2 x13_5 p407 q407
               cases e407
               replace p407 := eq_true p407
               replace q407 := eq_true q407
               have p408 : 0 ≤ (x15_6 : Int) := of_decide_eq_true nx_
               have q408 : x15_6 < (t378.length : Int) := of_decide_eq_true nx_
               obtain ⟨ad408, e408, hx408_0, hx408_1, hx408_2, hx408_3, hx408_4⟩ := at_T36 (rR3 HO_385001.out).2.2 x15_6 p408 q408
               obtain rfl : ad407 = ad408 := (by injection e408)
               replace p408 := eq_true p408
               replace q408 := eq_true q408
               obtain ⟨Ao84, co84, eo84⟩ := Kd.R_slice HO_14.out
               subst eo84
               have p409 : 0 ≤ (x15_6 : Int) := of_decide_eq_true nx_
               have q409 : x15_6 < (t404.length : Int) := of_decide_eq_true nx_
               obtain ⟨ad409, e409, hx409_0⟩ := Kd.at_int (rR3 HO_14.out).2.2 x15_6 p409 q409
               cases e409
               replace p409 := eq_true p409
               replace q409 := eq_true q409
               have p410 : 0 ≤ (x13_5 : Int) := of_decide_eq_true nx_
               have q410 : x13_5 < (t378.length : Int) := of_decide_eq_true nx_
               obtain ⟨ad410, e410, hx410_0, hx410_1, hx410_2, hx410_3, hx410_4⟩ := at_T36 (rR3 HO_385001.out).2.2 x13_5 p410 q410
               obtain rfl : ad407 = ad410 := (by injection e410)
               replace p410 := eq_true p410
               replace q410 := eq_true q410
               have p411 : 0 ≤ (x15_6 : Int) := of_decide_eq_true nx_
               have q411 : x15_6 < (t404.length : Int) := of_decide_eq_true nx_
               obtain ⟨ad411, e411, hx411_0⟩ := Kd.at_int (rR3 HO_14.out).2.2 x15_6 p411 q411
               obtain rfl : ad409 = ad411 := (by injection e411)
               replace p411 := eq_true p411
               replace q411 := eq_true q411
               go_wp2
               repeat (go_quiet (fail); try go_wp2)
               go_roundg k6
               case measure => have := HJ5.out; have := HK2.out; have := HK3.out; have := HJ54.out; have := HK5.out; have := HK6.out; omega
               case rel => exact ⟨(x12_6), (wrap64 (x15_6 + 1)), ns_, ns_, H', ⟨by have := HJ5.out; have := HK2.out; have := HK3.out; have := HJ54.out; have := HK5.out; have := HK6.out; omega⟩, ⟨nr_ HO_4.out⟩, ⟨nr_ HO_10.out⟩, ⟨nr_ HO_14.out⟩, ⟨nr_ HO_385001.out⟩, ⟨nr_ HO_391001.out⟩, ⟨nr_ HO_397001.out⟩, ⟨nb_ BK384.out⟩, ⟨nb_ BK390.out⟩, ⟨nb_ BK396.out⟩, ⟨ne_ HB.out⟩⟩
              rw [if_pos c76] at H
              have c76b0 : decide ((wrap64 (((rd_T36 t378 x13_5).f2) + (rd t404 x15_6))) < x12_6) = true := decide_eq_true c76
              clear c76
              have H' := Aside0.mk H
              clear H
              have hnb77 := NB384_390.out
              have hnc77 := NB390_384.out
              have hnb78 := NB384_396.out
              have hnc78 := NB396_384.out
              obtain ⟨hcz79_0, hcz79_1, hfz79_0, hfz79_1⟩ := cz2_ BK384.out
              have p407 : 0 ≤ (x13_5 : Int) := of_decide_eq_true nx_
              have q407 : x13_5 < (t378.length : Int) := of_decide_eq_true nx_
              obtain ⟨ad407, e407, hx407_0, hx407_1, hx407_2, hx407_3, hx407_4⟩ := at_T36 (rR3 HO_385001.out).2.2 x13_5 p407 q407
              cases e407
              replace p407 := eq_true p407
              replace q407 := eq_true q407
              have p408 : 0 ≤ (x15_6 : Int) := of_decide_eq_true nx_
              have q408 : x15_6 < (t378.length : Int) := of_decide_eq_true nx_
              obtain ⟨ad408, e408, hx408_0, hx408_1, hx408_2, hx408_3, hx408_4⟩ := at_T36 (rR3 HO_385001.out).2.2 x15_6 p408 q408
              obtain rfl : ad407 = ad408 := (by injection e408)
              replace p408 := eq_true p408
              replace q408 := eq_true q408
              obtain ⟨Ao80, co80, eo80⟩ := Kd.R_slice HO_14.out
              subst eo80
              have p409 : 0 ≤ (x15_6 : Int) := of_decide_eq_true nx_
              have q409 : x15_6 < (t404.length : Int) := of_decide_eq_true nx_
              obtain ⟨ad409, e409, hx409_0⟩ := Kd.at_int (rR3 HO_14.out).2.2 x15_6 p409 q409
              cases e409
              replace p409 := eq_true p409
              replace q409 := eq_true q409
              have p410 : 0 ≤ (x13_5 : Int) := of_decide_eq_true nx_
              have q410 : x13_5 < (t378.length : Int) := of_decide_eq_true nx_
              obtain ⟨ad410, e410, hx410_0, hx410_1, hx410_2, hx410_3, hx410_4⟩ := at_T36 (rR3 HO_385001.out).2.2 x13_5 p410 q410
              obtain rfl : ad407 = ad410 := (by injection e410)
              replace p410 := eq_true p410
              replace q410 := eq_true q410
              have p411 : 0 ≤ (x15_6 : Int) := of_decide_eq_true nx_
              have q411 : x15_6 < (t404.length : Int) := of_decide_eq_true nx_
              obtain ⟨ad411, e411, hx411_0⟩ := Kd.at_int (rR3 HO_14.out).2.2 x15_6 p411 q411
              obtain rfl : ad409 = ad411 := (by injection e411)
              replace p411 := eq_true p411
              replace q411 := eq_true q411
              have p412 : 0 ≤ (x13_5 : Int) := of_decide_eq_true nx_
              have q412 : x13_5 < (t378.length : Int) := of_decide_eq_true nx_
              obtain ⟨ad412, e412, hx412_0, hx412_1, hx412_2, hx412_3, hx412_4⟩ := at_T36 (rR3 HO_385001.out).2.2 x13_5 p412 q412
              obtain rfl : ad407 = ad412 := (by injection e412)
              replace p412 := eq_true p412
              replace q412 := eq_true q412
              have p413 : 0 ≤ (x15_6 : Int) := of_decide_eq_true nx_
              have q413 : x15_6 < (t404.length : Int) := of_decide_eq_true nx_
              obtain ⟨ad413, e413, hx413_0⟩ := Kd.at_int (rR3 HO_14.out).2.2 x15_6 p413 q413
              obtain rfl : ad409 = ad413 := (by injection e413)
              replace p413 := eq_true p413
              replace q413 := eq_true q413
              go_wp2
              repeat (go_quiet (fail); try go_wp2)
              go_roundg k6
              case measure => have := HJ5.out; have := HK2.out; have := HK3.out; have := HJ54.out; have := HK5.out; have := HK6.out; omega
              case rel => exact ⟨(wrap64 (((rd_T36 t378 x13_5).f2) + (rd t404 x15_6))), (wrap64 (x15_6 + 1)), ns_, ns_, H', ⟨by have := HJ5.out; have := HK2.out; have := HK3.out; have := HJ54.out; have := HK5.out; have := HK6.out; omega⟩, ⟨nr_ HO_4.out⟩, ⟨nr_ HO_10.out⟩, ⟨nr_ HO_14.out⟩, ⟨nr_ HO_385001.out⟩, ⟨nr_ HO_391001.out⟩, ⟨nr_ HO_397001.out⟩, ⟨nb_ BK384.out⟩, ⟨nb_ BK390.out⟩, ⟨nb_ BK396.out⟩, ⟨ne_ HB.out⟩⟩
/-- THE ONE PURE STATEMENT of laws_FnTurnNet: yours. -/
def laws_FnTurnNet.Pure : Prop := ∀ (l0 : List Int), l0.length ≤ maxLen → l0.length * 1 ≤ 140737488351232 → (∀ x ∈ l0, (Lit.int .u8 x).wf = true) → ∃ k, laws_FnTurnNet.f k l0 = some true
theorem laws_FnTurnNet.walk (P : laws_FnTurnNet.Pure) (a0 : Option Addr) (len0 cap0 : Nat) (z0 : List Int) (w : World) (w0 : (a0 = none ∧ len0 = 0 ∧ cap0 = 0 ∧ z0 = []) ∨ ∃ x, a0 = some x ∧ len0 ≤ cap0 ∧ cap0 ≤ maxLen ∧ z0.length = cap0 ∧ (∀ i, i < z0.length → w.cell? (x.add i) = some (.int .u8 (z0.getD i 0))) ∧ ∀ n ∈ z0, (Lit.int .u8 n).wf = true) (y0 : len0 * 1 ≤ 140737488351232) :
    Calls Try.prog 3 #[.slice a0 len0 cap0] w fun e w' => e = .returned (.bool true) ∧ Below w.heap.size w w' := by
  obtain ⟨l0, rfl, hr0, hm0, hw0, hc0⟩ := ReadsInt.ofRowC w0
  obtain ⟨k, h⟩ := P l0 hm0 y0 hw0
  refine (laws_FnTurnNet.calls k _ _ l0 true w (Kd.C_of_reads (d := (0 : Int)) (h1 := fun _ => rfl) hr0) hc0 h).mono ?_
  rintro e w' ⟨rfl, hd⟩
  exact ⟨rfl, hd⟩

end Go.Proofs.Ytfijdkjibjdbiaa.Print
