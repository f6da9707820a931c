-- Made by this session's own program (wip/patch_print.py, over the kit's print). Lean checks it.
import Derived.Test.YtcfmejfmjjgoaaaPrint0
import Derived.Test.YtcfmejfmjjgoaaaPrintF14
import Derived.Test.YtcfmejfmjjgoaaaPrintF22
import Derived.Test.YtcfmejfmjjgoaaaPrintF23
import Derived.Test.YtcfmejfmjjgoaaaPrintF24
import Derived.Test.YtcfmejfmjjgoaaaPrintF25
import Derived.Test.YtcfmejfmjjgoaaaPrintF26
namespace Go.Proofs.Ytcfmejfmjjgoaaa.Print
open Go.RowKit Go.Proofs.YtcfmejfmjjgoaaaW.PrintWords Go.Proofs.YtcfmejfmjjgoaaaW.PrintLast Go.Proofs.YtcfmejfmjjgoaaaW.PrintMore Go.Proofs.YtcfmejfmjjgoaaaX
attribute [local go_sem] max2_int min2_int max_two min_two max_three min_three max_four min_four   -- for this text's walks alone
set_option linter.unusedVariables false
set_option linter.unusedSimpArgs false

abbrev z5_0 := bm_ 23 0
abbrev z5_1 := bm_ 23 1
abbrev z5_2 := bm_ 23 3
abbrev z5_3 := bm_ 23 7
abbrev z5_4 := bm_ 23 15
abbrev z5_5 := bm_ 23 47
abbrev z5_6 := bm_ 23 111
abbrev z5_7 := bm_ 23 239
abbrev z5_8 := bm_ 23 495
abbrev z5_9 := bm_ 23 511
abbrev z5_10 := bm_ 23 1023
abbrev z5_11 := bm_ 23 2047
abbrev z5_12 := bm_ 23 4095
abbrev z5_13 := bm_ 23 8191
abbrev z5_14 := bm_ 23 16383
abbrev z5_15 := bm_ 23 32767
abbrev z5_16 := bm_ 23 65535
abbrev z5_17 := bm_ 23 196607
abbrev z5_18 := bm_ 23 458751
abbrev z5_19 := bm_ 23 983039
abbrev z5_20 := bm_ 23 1048575
abbrev z5_21 := bm_ 23 2097151
abbrev z5_22 := bm_ 23 4194303
abbrev z5_23 := bm_ 23 8388607
abbrev z5_24 := bm_ 24 0
abbrev z5_25 := bm_ 24 2
abbrev z5_26 := bm_ 24 18
abbrev z5_27 := bm_ 24 19
abbrev z5_28 := bm_ 24 27
abbrev z5_29 := bm_ 24 31
abbrev z5_30 := bm_ 24 63
abbrev z5_31 := bm_ 24 127
abbrev z5_32 := bm_ 24 255
abbrev z5_33 := bm_ 24 511
abbrev z5_34 := bm_ 24 1023
abbrev z5_35 := bm_ 24 2047
abbrev z5_36 := bm_ 24 4095
abbrev z5_37 := bm_ 24 8191
abbrev z5_38 := bm_ 24 16383
abbrev z5_39 := bm_ 24 32767
abbrev z5_40 := bm_ 24 65535
abbrev z5_41 := bm_ 24 131071
abbrev z5_42 := bm_ 24 262143
abbrev z5_43 := bm_ 24 524287
abbrev z5_44 := bm_ 24 1048575
abbrev z5_45 := bm_ 24 2097151
abbrev z5_46 := bm_ 24 4194303
abbrev z5_47 := bm_ 24 8388607
abbrev z5_48 := bm_ 24 16777215
abbrev rR5 := @Kd.R_reads'
/-! ### laws_FnTurnWalk: function 5 -/
mutual
def laws_FnTurnWalk.j0 : Nat → List (S31) → List Int → Int → Bool → Int → List (S33) → Option (Bool)
  | 0, _, _, _, _, _, _ => none
  | k + 1, x4, x5, x6, x41, x501000, x501001 => if x41 = true then ((spec_TurnWalk.f k x501000 x501001 x4 x5).bind fun t505 => (some (x6 == t505))) else ((impl_WalkCost.f k x501000 x501001 x5).bind fun t506 => (laws_FnTurnWalk.l0 k x4 x5 x6 false t506 1 x501000 x501001))
def laws_FnTurnWalk.l0 : Nat → List (S31) → List Int → Int → Bool → Int → Int → Int → List (S33) → Option (Bool)
  | 0, _, _, _, _, _, _, _, _ => none
  | k + 1, x4, x5, x6, x7, x8, x9, x501000, x501001 => if x9 < (x5.length : Int) then (laws_FnTurnWalk.l1 k x4 x5 x6 x7 x8 x9 0 x501000 x501001) else ((impl_TurnWalk.f k x501000 x501001 ([] : List (S31)) x5).bind fun t507 => ((impl_WalkCost.f k x501000 x501001 x5).bind fun t508 => (if t507 = t508 then (if x7 = true then (if x6 = (-1) then (some true) else (some false)) else (some (x6 == x8))) else (some false))))
def laws_FnTurnWalk.l1 : Nat → List (S31) → List Int → Int → Bool → Int → Int → Int → Int → List (S33) → Option (Bool)
  | 0, _, _, _, _, _, _, _, _, _ => none
  | k + 1, x4, x5, x6, x7, x8, x9, x10, x501000, x501001 => if x10 < (x4.length : Int) then (if 0 ≤ x10 then (if 0 ≤ (wrap64 (x9 - 1)) then (if (wrap64 (x9 - 1)) < (x5.length : Int) then (if ((rd_T31 x4 x10).f0) = (rd x5 (wrap64 (x9 - 1))) then (if 0 ≤ x9 then (if x9 < (x5.length : Int) then (if ((rd_T31 x4 x10).f1) = (rd x5 x9) then (if x7 = true then (laws_FnTurnWalk.l1 k x4 x5 x6 true (wrap64 (x8 + ((rd_T31 x4 x10).f2))) x9 (wrap64 (x10 + 1)) x501000 x501001) else (laws_FnTurnWalk.l1 k x4 x5 x6 (decide (((rd_T31 x4 x10).f2) < 0)) (wrap64 (x8 + ((rd_T31 x4 x10).f2))) x9 (wrap64 (x10 + 1)) x501000 x501001)) else (laws_FnTurnWalk.l1 k x4 x5 x6 x7 x8 x9 (wrap64 (x10 + 1)) x501000 x501001)) else (none)) else (none)) else (laws_FnTurnWalk.l1 k x4 x5 x6 x7 x8 x9 (wrap64 (x10 + 1)) x501000 x501001)) else (none)) else (none)) else (none)) else (laws_FnTurnWalk.l0 k x4 x5 x6 x7 x8 (wrap64 (x9 + 1)) x501000 x501001)
end
def laws_FnTurnWalk.f (k : Nat) (l0 : List Int) : Option (Bool) := if (l0.length : Int) > 1048576 then (some true) else ((spec_DrawTurnWalk.f k l0).bind fun bt490 => ((impl_TurnWalk.f k bt490.1 bt490.2.1 bt490.2.2.1 bt490.2.2.2).bind fun t501 => ((spec_TurnWalk.f k bt490.1 bt490.2.1 bt490.2.2.1 bt490.2.2.2).bind fun t502 => (if t501 = t502 then ((impl_TurnsOk.f k bt490.1 bt490.2.1 bt490.2.2.1).bind fun t503 => (if t503 = true then ((impl_WalkOk.f k bt490.1 bt490.2.1 bt490.2.2.2).bind fun t504 => (laws_FnTurnWalk.j0 k bt490.2.2.1 bt490.2.2.2 t501 (!t504) bt490.1 bt490.2.1)) else (laws_FnTurnWalk.j0 k bt490.2.2.1 bt490.2.2.2 t501 true bt490.1 bt490.2.1))) else (laws_FnTurnWalk.j0 k bt490.2.2.1 bt490.2.2.2 t501 true bt490.1 bt490.2.1)))))
theorem laws_FnTurnWalk.mono_l : ∀ k, (∀ y0 y1 y2 y3 y4 y5, LeO (laws_FnTurnWalk.j0 k y0 y1 y2 y3 y4 y5) (laws_FnTurnWalk.j0 (k + 1) y0 y1 y2 y3 y4 y5)) ∧ (∀ y0 y1 y2 y3 y4 y5 y6 y7, LeO (laws_FnTurnWalk.l0 k y0 y1 y2 y3 y4 y5 y6 y7) (laws_FnTurnWalk.l0 (k + 1) y0 y1 y2 y3 y4 y5 y6 y7)) ∧ (∀ y0 y1 y2 y3 y4 y5 y6 y7 y8, LeO (laws_FnTurnWalk.l1 k y0 y1 y2 y3 y4 y5 y6 y7 y8) (laws_FnTurnWalk.l1 (k + 1) y0 y1 y2 y3 y4 y5 y6 y7 y8))
  | 0 => ⟨fun _ _ _ _ _ _ r h => by simp [laws_FnTurnWalk.j0] at h, fun _ _ _ _ _ _ _ _ r h => by simp [laws_FnTurnWalk.l0] at h, fun _ _ _ _ _ _ _ _ _ r h => by simp [laws_FnTurnWalk.l1] at h⟩
  | k + 1 => by
    obtain ⟨ih0, ih1, ih2⟩ := laws_FnTurnWalk.mono_l k
    refine ⟨?_, ?_, ?_⟩
    · intro y0 y1 y2 y3 y4 y5
      unfold laws_FnTurnWalk.j0
      repeat' first | (with_reducible first | exact ih0 _ _ _ _ _ _ | exact ih1 _ _ _ _ _ _ _ _ | exact ih2 _ _ _ _ _ _ _ _ _ | exact impl_TurnWalk.mono _ _ _ _ _ | exact impl_TurnsOk.mono _ _ _ _ | exact impl_WalkCost.mono _ _ _ _ | exact impl_WalkOk.mono _ _ _ _ | exact spec_DrawTurnWalk.mono _ _ | exact spec_TurnWalk.mono _ _ _ _ _ | exact LeO.refl _ | exact LeO.none _ | refine LeO.ite ?_ ?_ | refine LeO.bind ?_ (fun _ => ?_)) | exact ih0 _ _ _ _ _ _ | exact ih1 _ _ _ _ _ _ _ _ | exact ih2 _ _ _ _ _ _ _ _ _ | exact impl_TurnWalk.mono _ _ _ _ _ | exact impl_TurnsOk.mono _ _ _ _ | exact impl_WalkCost.mono _ _ _ _ | exact impl_WalkOk.mono _ _ _ _ | exact spec_DrawTurnWalk.mono _ _ | exact spec_TurnWalk.mono _ _ _ _ _ | exact LeO.none _ | refine LeO.ite ?_ ?_ | refine LeO.bind ?_ (fun _ => ?_)
    · intro y0 y1 y2 y3 y4 y5 y6 y7
      unfold laws_FnTurnWalk.l0
      repeat' first | (with_reducible first | exact ih0 _ _ _ _ _ _ | exact ih1 _ _ _ _ _ _ _ _ | exact ih2 _ _ _ _ _ _ _ _ _ | exact impl_TurnWalk.mono _ _ _ _ _ | exact impl_TurnsOk.mono _ _ _ _ | exact impl_WalkCost.mono _ _ _ _ | exact impl_WalkOk.mono _ _ _ _ | exact spec_DrawTurnWalk.mono _ _ | exact spec_TurnWalk.mono _ _ _ _ _ | exact LeO.refl _ | exact LeO.none _ | refine LeO.ite ?_ ?_ | refine LeO.bind ?_ (fun _ => ?_)) | exact ih0 _ _ _ _ _ _ | exact ih1 _ _ _ _ _ _ _ _ | exact ih2 _ _ _ _ _ _ _ _ _ | exact impl_TurnWalk.mono _ _ _ _ _ | exact impl_TurnsOk.mono _ _ _ _ | exact impl_WalkCost.mono _ _ _ _ | exact impl_WalkOk.mono _ _ _ _ | exact spec_DrawTurnWalk.mono _ _ | exact spec_TurnWalk.mono _ _ _ _ _ | exact LeO.none _ | refine LeO.ite ?_ ?_ | refine LeO.bind ?_ (fun _ => ?_)
    · intro y0 y1 y2 y3 y4 y5 y6 y7 y8
      unfold laws_FnTurnWalk.l1
      repeat' first | (with_reducible first | exact ih0 _ _ _ _ _ _ | exact ih1 _ _ _ _ _ _ _ _ | exact ih2 _ _ _ _ _ _ _ _ _ | exact impl_TurnWalk.mono _ _ _ _ _ | exact impl_TurnsOk.mono _ _ _ _ | exact impl_WalkCost.mono _ _ _ _ | exact impl_WalkOk.mono _ _ _ _ | exact spec_DrawTurnWalk.mono _ _ | exact spec_TurnWalk.mono _ _ _ _ _ | exact LeO.refl _ | exact LeO.none _ | refine LeO.ite ?_ ?_ | refine LeO.bind ?_ (fun _ => ?_)) | exact ih0 _ _ _ _ _ _ | exact ih1 _ _ _ _ _ _ _ _ | exact ih2 _ _ _ _ _ _ _ _ _ | exact impl_TurnWalk.mono _ _ _ _ _ | exact impl_TurnsOk.mono _ _ _ _ | exact impl_WalkCost.mono _ _ _ _ | exact impl_WalkOk.mono _ _ _ _ | exact spec_DrawTurnWalk.mono _ _ | exact spec_TurnWalk.mono _ _ _ _ _ | exact LeO.none _ | refine LeO.ite ?_ ?_ | refine LeO.bind ?_ (fun _ => ?_)
theorem laws_FnTurnWalk.mono : ∀ a0 k, LeO (laws_FnTurnWalk.f k a0) (laws_FnTurnWalk.f (k + 1) a0) := by
  intro a0 k
  obtain ⟨ih0, ih1, ih2⟩ := laws_FnTurnWalk.mono_l k
  unfold laws_FnTurnWalk.f
  repeat' first | (with_reducible first | exact ih0 _ _ _ _ _ _ | exact ih1 _ _ _ _ _ _ _ _ | exact ih2 _ _ _ _ _ _ _ _ _ | exact impl_TurnWalk.mono _ _ _ _ _ | exact impl_TurnsOk.mono _ _ _ _ | exact impl_WalkCost.mono _ _ _ _ | exact impl_WalkOk.mono _ _ _ _ | exact spec_DrawTurnWalk.mono _ _ | exact spec_TurnWalk.mono _ _ _ _ _ | exact LeO.refl _ | exact LeO.none _ | refine LeO.ite ?_ ?_ | refine LeO.bind ?_ (fun _ => ?_)) | exact ih0 _ _ _ _ _ _ | exact ih1 _ _ _ _ _ _ _ _ | exact ih2 _ _ _ _ _ _ _ _ _ | exact impl_TurnWalk.mono _ _ _ _ _ | exact impl_TurnsOk.mono _ _ _ _ | exact impl_WalkCost.mono _ _ _ _ | exact impl_WalkOk.mono _ _ _ _ | exact spec_DrawTurnWalk.mono _ _ | exact spec_TurnWalk.mono _ _ _ _ _ | exact LeO.none _ | refine LeO.ite ?_ ?_ | refine LeO.bind ?_ (fun _ => ?_)
def laws_FnTurnWalk.T15 : Bool × List (List Nat × List Nat) := (true, [([], []), ([], []), ([0, 1], [0, 1]), ([2], [2]), ([3], [3]), ([], []), ([], []), ([6], [6]), ([5, 7], [5, 7]), ([8], [8]), ([4, 9], [4, 9]), ([10], [10]), ([11], [11]), ([11], [11]), ([12, 13, 11], [11, 12, 13]), ([14, 11], [11, 14]), ([15, 11], [11, 15]), ([11], [11]), ([11], [11]), ([17, 18, 11], [11, 17, 18]), ([19, 11], [11, 19]), ([16, 20, 11], [11, 16, 20]), ([11, 21], [11, 21])])
def laws_FnTurnWalk.B15 : List Nat := [0, 0, 3, 7, 15, 0, 0, 64, 224, 480, 1023, 2047, 4095, 4095, 16383, 32767, 65535, 4095, 4095, 397311, 921599, 2097151, 4194303]
theorem laws_FnTurnWalk.tab15 : rtab .any (opsOf Try.f5 15) = laws_FnTurnWalk.T15 := by kernel_rfl
theorem laws_FnTurnWalk.bits15 : waitsOk laws_FnTurnWalk.T15.2 laws_FnTurnWalk.B15 = true := by kernel_rfl
def laws_FnTurnWalk.T18 : Bool × List (List Nat × List Nat) := (true, [([], []), ([], []), ([0, 1], [0, 1]), ([], []), ([], []), ([3, 4, 2], [3, 4]), ([2, 5], [2, 5]), ([6, 5], [6]), ([7], [7]), ([8, 7, 7], [7, 8]), ([9], [9]), ([10, 9], [9, 10]), ([9, 11, 7], [7, 9, 11]), ([12, 9, 7], [7, 12]), ([13], [13]), ([14, 13], [13, 14]), ([15, 13, 13], [13, 15]), ([16], [16]), ([16], [16]), ([17, 18, 16], [16, 17, 18]), ([16, 19, 13], [13, 16, 19]), ([13, 20, 7], [7, 13, 20]), ([7, 21], [7, 21]), ([22, 16, 0, 1, 2, 3, 4, 5, 6, 7, 8, 9, 10, 11, 12, 13, 14, 15, 16, 17, 18, 19, 20, 21, 22], [22])])
def laws_FnTurnWalk.B18 : List Nat := [0, 0, 3, 0, 0, 31, 63, 127, 255, 511, 1023, 2047, 4095, 8191, 16383, 32767, 65535, 131071, 131071, 524287, 1048575, 2097151, 4194303, 8388607]
theorem laws_FnTurnWalk.tab18 : rtab .any (opsOf Try.f5 18) = laws_FnTurnWalk.T18 := by kernel_rfl
theorem laws_FnTurnWalk.bits18 : waitsOk laws_FnTurnWalk.T18.2 laws_FnTurnWalk.B18 = true := by kernel_rfl
set_option maxHeartbeats 200000000 in
set_option maxRecDepth 100000 in
theorem laws_FnTurnWalk.calls (k : Nat) (A0 : Option Addr) (c0 : Nat) (l0 : List Int) (r : Bool) (w : World) (hr0 : Kd.C (Kd.int .u8) w A0 l0.length l0) (hc0 : l0.length ≤ c0) (h : laws_FnTurnWalk.f k l0 = some r) :
    Calls Try.prog 5 #[.slice A0 l0.length c0] w fun e w' => e = .returned (.bool r) ∧ Below w.heap.size w w' := by
  have hu25 := Try.underlying25
  have HR0 := Aside0.mk hr0
  have HC0 := Aside0.mk hc0
  clear hr0 hc0
  have HB := Aside0.mk (Below.refl w.heap.size w)
  have H : (if (l0.length : Int) > 1048576 then (some true) else ((spec_DrawTurnWalk.f k l0).bind fun bt490 => ((impl_TurnWalk.f k bt490.1 bt490.2.1 bt490.2.2.1 bt490.2.2.2).bind fun t501 => ((spec_TurnWalk.f k bt490.1 bt490.2.1 bt490.2.2.1 bt490.2.2.2).bind fun t502 => (if t501 = t502 then ((impl_TurnsOk.f k bt490.1 bt490.2.1 bt490.2.2.1).bind fun t503 => (if t503 = true then ((impl_WalkOk.f k bt490.1 bt490.2.1 bt490.2.2.2).bind fun t504 => (laws_FnTurnWalk.j0 k bt490.2.2.1 bt490.2.2.2 t501 (!t504) bt490.1 bt490.2.1)) else (laws_FnTurnWalk.j0 k bt490.2.2.1 bt490.2.2.2 t501 true bt490.1 bt490.2.1))) else (laws_FnTurnWalk.j0 k bt490.2.2.1 bt490.2.2.2 t501 true bt490.1 bt490.2.1)))))) = some r := h
  clear h
  by_cases c2 : (l0.length : Int) > 1048576
  ·rw [if_pos c2] at H
   have c2b0 : decide (1048576 < (l0.length : Int)) = true := decide_eq_true c2
   have c2b1 : decide (1048576 < l0.length) = true := decide_eq_true (by omega)
   clear c2
   obtain rfl := Option.some.inj H
   go_enter Try.func5, Try.ntmps5
   go_wp2
   go_ret
   exact ⟨nw_, ne_ HB.out⟩
  rw [if_neg c2] at H
  have c2b0 : decide (1048576 < (l0.length : Int)) = false := decide_eq_false c2
  have c2b1 : decide (1048576 < l0.length) = false := decide_eq_false (by omega)
  clear c2
  replace H := Option.bind_eq_some_iff.mp H
  obtain ⟨⟨t490, t491, t494, t497⟩, A30, H⟩ := H
  replace H : ((impl_TurnWalk.f k t490 t491 t494 t497).bind fun t501 => ((spec_TurnWalk.f k t490 t491 t494 t497).bind fun t502 => (if t501 = t502 then ((impl_TurnsOk.f k t490 t491 t494).bind fun t503 => (if t503 = true then ((impl_WalkOk.f k t490 t491 t497).bind fun t504 => (laws_FnTurnWalk.j0 k t494 t497 t501 (!t504) t490 t491)) else (laws_FnTurnWalk.j0 k t494 t497 t501 true t490 t491))) else (laws_FnTurnWalk.j0 k t494 t497 t501 true t490 t491)))) = some r := H
  have A3 := Aside0.mk A30
  clear A30
  replace H := Option.bind_eq_some_iff.mp H
  obtain ⟨t501, A40, H⟩ := H
  replace H : ((spec_TurnWalk.f k t490 t491 t494 t497).bind fun t502 => (if t501 = t502 then ((impl_TurnsOk.f k t490 t491 t494).bind fun t503 => (if t503 = true then ((impl_WalkOk.f k t490 t491 t497).bind fun t504 => (laws_FnTurnWalk.j0 k t494 t497 t501 (!t504) t490 t491)) else (laws_FnTurnWalk.j0 k t494 t497 t501 true t490 t491))) else (laws_FnTurnWalk.j0 k t494 t497 t501 true t490 t491))) = some r := H
  have A4 := Aside0.mk A40
  clear A40
  have HC5 := Aside0.mk H
  clear H
  go_enter Try.func5, Try.ntmps5
  go_upto_region 5 with (first | ((with_reducible refine gate_callee (f := 22) rfl ?_); refine gl_ (some 16) Try.func22 #[.slice A0 l0.length c0] ?_; (with_reducible refine (spec_DrawTurnWalk.calls k _ _ l0 t490 t491 t494 t497 _ ?side1 ?side2 A3.out).mono ?_); (case side1 => repeat (first | exact HR0.out | (with_reducible refine Kd.C_alloc ?_ _) | (with_reducible refine Kd.C_drewN ?_ _) | (with_reducible refine Kd.C_drew ?_))); (case side2 => exact HC0.out); rintro e w6 ⟨v492, v495, v498, rfl, ho0, ho1, ho2, hb⟩; refine ⟨_, rfl, ?_⟩; have HO493 := Aside0.mk (Kd.R_lower ho0 (below_size (ne_ HB.out))); have HO496 := Aside0.mk (Kd.R_lower ho1 (below_size (ne_ HB.out))); have HO499 := Aside0.mk (Kd.R_lower ho2 (below_size (ne_ HB.out))); replace HB := kB_ HB hb; (try clear hb); (try clear hb2); (try clear hk); (try clear hi); (try clear ho0); (try clear ho1); (try clear ho2)) | ((with_reducible refine gate_dst (N := 3) rfl ?_); refine bx_ 3 #[.int .i64 0, .slice none 0 0] 25 ?_; intro gb500 hg w7 hbox hb; have BK500 := Aside0.mk (hbox); have GW500 := Aside0.mk (zs_ hg (ne_ HB.out)); have GE500 := Aside0.mk (zs_ hg (ne_ HB.out)); replace HO493 := kR_ HO493 hb; replace HO496 := kR_ HO496 hb; replace HO499 := kR_ HO499 hb; replace HB := kB_ HB hb; clear hb hbox hg; obtain ⟨hcz8_0, hcz8_1, hfz8_0, hfz8_1⟩ := cz2_ BK500.out; obtain ⟨Ao9, co9, eo9⟩ := Kd.R_slice HO493.out; subst eo9; obtain ⟨Ao10, co10, eo10⟩ := Kd.R_slice HO496.out; subst eo10; obtain ⟨Ao11, co11, eo11⟩ := Kd.R_slice HO499.out; subst eo11) | ((with_reducible refine gate_callee (f := 23) rfl ?_); refine gl_ (some 23) Try.func23 #[.agg #[.int .i64 t490, .slice Ao9 t491.length co9], .slice Ao10 t494.length co10, .slice Ao11 t497.length co11] ?_; (with_reducible refine (impl_TurnWalk.calls k t490 _ _ t491 _ _ t494 _ _ t497 t501 _ ?side1 ?side2 ?side3 ?side4 ?side5 ?side6 A4.out).mono ?_); (case side1 => refine (rR5 (e := 33) (base := w.heap.size) (ok := fun k_ => True) (n := t491.length) (c := co9) ?_).2.2; exact (by (with_reducible repeat (first | apply Kd.R_alloc | apply Kd.R_drewN | apply Kd.R_drew)); exact (Kd.R_mono (rf2_ (Kd.R_types HO493.out BK500.out (by decide))) (fun _ h_ => h_.1)))); (case side2 => exact (rR5 HO493.out).2.1); (case side3 => refine (rR5 (e := 31) (base := w.heap.size) (ok := fun k_ => True) (n := t494.length) (c := co10) ?_).2.2; exact (by (with_reducible repeat (first | apply Kd.R_alloc | apply Kd.R_drewN | apply Kd.R_drew)); exact (Kd.R_mono (rf2_ (Kd.R_types HO496.out BK500.out (by decide))) (fun _ h_ => h_.1)))); (case side4 => exact (rR5 HO496.out).2.1); (case side5 => refine (rR5 (e := 3) (base := w.heap.size) (ok := fun k_ => True) (n := t497.length) (c := co11) ?_).2.2; exact (by (with_reducible repeat (first | apply Kd.R_alloc | apply Kd.R_drewN | apply Kd.R_drew)); exact (Kd.R_mono (rf2_ (Kd.R_types HO499.out BK500.out (by decide))) (fun _ h_ => h_.1)))); (case side6 => exact (rR5 HO499.out).2.1); rintro e w12 ⟨rfl, hb⟩; refine ⟨_, rfl, ?_⟩; replace HO493 := Aside0.mk (Kd.R_below (by (with_reducible repeat (first | apply Kd.R_alloc | apply Kd.R_drewN | apply Kd.R_drew)); exact (Kd.R_mono (rf2_ (Kd.R_types HO493.out BK500.out (by decide))) (fun _ h_ => h_.1))) hb); replace HO496 := Aside0.mk (Kd.R_below (by (with_reducible repeat (first | apply Kd.R_alloc | apply Kd.R_drewN | apply Kd.R_drew)); exact (Kd.R_mono (rf2_ (Kd.R_types HO496.out BK500.out (by decide))) (fun _ h_ => h_.1))) hb); replace HO499 := Aside0.mk (Kd.R_below (by (with_reducible repeat (first | apply Kd.R_alloc | apply Kd.R_drewN | apply Kd.R_drew)); exact (Kd.R_mono (rf2_ (Kd.R_types HO499.out BK500.out (by decide))) (fun _ h_ => h_.1))) hb); replace BK500 := Aside0.mk (blk_below (g := gb500) (o := .cells #[.int .i64 t490, .slice Ao9 t491.length co9] 25 (0, 0)) (np_ BK500.out) hb); replace HB := kB_ HB hb; (try clear hb); (try clear hb2); (try clear hk); (try clear hi)))
  (try simp only [Act.put, List.setIfInBounds_toArray, List.set_cons_zero, List.set_cons_succ])
  go_cut [41] (fun v41 wc => ∃ (kq : Nat) (x41_4 : Bool), v41 = .bool x41_4 ∧ Aside0 (laws_FnTurnWalk.j0 kq t494 t497 t501 x41_4 t490 t491 = some r) ∧ Aside0 (kq ≤ k) ∧ Aside0 (Kd.R k31 31 wc w.heap.size (fun _ => True) (.slice Ao10 t494.length co10) t494) ∧ Aside0 (Kd.R (Kd.int .i64) 3 wc w.heap.size (fun _ => True) (.slice Ao11 t497.length co11) t497) ∧ Aside0 (Kd.R k33 33 wc w.heap.size (fun _ => True) (.slice Ao9 t491.length co9) t491) ∧ Aside0 (wc.heap[gb500]? = some (.cells #[.int .i64 t490, (.slice Ao9 t491.length co9)] 25 (0, 0))) ∧ Aside0 (Below w.heap.size w wc))
  case first =>
   have H := HC5.out
   clear HC5
   replace H := Option.bind_eq_some_iff.mp H
   obtain ⟨t502, A130, H⟩ := H
   replace H : (if t501 = t502 then ((impl_TurnsOk.f k t490 t491 t494).bind fun t503 => (if t503 = true then ((impl_WalkOk.f k t490 t491 t497).bind fun t504 => (laws_FnTurnWalk.j0 k t494 t497 t501 (!t504) t490 t491)) else (laws_FnTurnWalk.j0 k t494 t497 t501 true t490 t491))) else (laws_FnTurnWalk.j0 k t494 t497 t501 true t490 t491)) = some r := H
   have A13 := Aside0.mk A130
   clear A130
   by_cases c14 : t501 = t502
   rotate_left
   ·rw [if_neg c14] at H
    have c14b0 : (t501 == t502) = false := beq_eq_false_iff_ne.mpr c14
    have c14b1 : (t501 != t502) = true := bne_iff_ne.mpr c14
    (first | rw [c14b0] | (simp only [i64_w, i32_w]; rw [c14b0]) | skip)
    have H' := Aside0.mk H
    clear H
    obtain ⟨hcz28_0, hcz28_1, hfz28_0, hfz28_1⟩ := cz2_ BK500.out
    go_wp2_with (first | ((with_reducible refine gate_callee (f := 24) rfl ?_); refine gl_ (some 28) Try.func24 #[.agg #[.int .i64 t490, .slice Ao9 t491.length co9], .slice Ao10 t494.length co10, .slice Ao11 t497.length co11] ?_; (with_reducible refine (spec_TurnWalk.calls k t490 _ _ t491 _ _ t494 _ _ t497 t502 _ ?side1 ?side2 ?side3 ?side4 ?side5 ?side6 A13.out).mono ?_); (case side1 => exact nc_ (rR5 HO493.out).2.2); (case side2 => exact (rR5 HO493.out).2.1); (case side3 => exact nc_ (rR5 HO496.out).2.2); (case side4 => exact (rR5 HO496.out).2.1); (case side5 => exact nc_ (rR5 HO499.out).2.2); (case side6 => exact (rR5 HO499.out).2.1); rintro e w29 ⟨rfl, hb⟩; refine ⟨_, rfl, ?_⟩; replace HO493 := kR_ HO493 hb; replace HO496 := kR_ HO496 hb; replace HO499 := kR_ HO499 hb; replace BK500 := kb_ BK500 hb; replace HB := kB_ HB hb; (try clear hb); (try clear hb2); (try clear hk); (try clear hi)))
    go_meet
    case rel => exact ⟨_, (true), ns_, H', ⟨by first | omega | exact Nat.le_refl _⟩, ⟨nr_ HO496.out⟩, ⟨nr_ HO499.out⟩, ⟨nr_ HO493.out⟩, ⟨nb_ BK500.out⟩, ⟨ne_ HB.out⟩⟩
   rw [if_pos c14] at H
   have c14b0 : (t501 == t502) = true := beq_iff_eq.mpr c14
   have c14b1 : (t501 != t502) = false := bne_eq_false_iff_eq.mpr c14
   clear c14
   (first | rw [c14b0] | (simp only [i64_w, i32_w]; rw [c14b0]) | skip)
   replace H := Option.bind_eq_some_iff.mp H
   obtain ⟨t503, A150, H⟩ := H
   replace H : (if t503 = true then ((impl_WalkOk.f k t490 t491 t497).bind fun t504 => (laws_FnTurnWalk.j0 k t494 t497 t501 (!t504) t490 t491)) else (laws_FnTurnWalk.j0 k t494 t497 t501 true t490 t491)) = some r := H
   have A15 := Aside0.mk A150
   clear A150
   by_cases c16 : t503 = true
   rotate_left
   ·replace c16 := Bool.eq_false_iff.mpr c16
    subst c16
    have H1 : (laws_FnTurnWalk.j0 k t494 t497 t501 true t490 t491) = some r := by rw [if_neg (show ¬ (false = true) by decide)] at H; exact H
    clear H
    have H := H1
    clear H1
    have H' := Aside0.mk H
    clear H
    obtain ⟨hcz24_0, hcz24_1, hfz24_0, hfz24_1⟩ := cz2_ BK500.out
    go_wp2_with (first | ((with_reducible refine gate_callee (f := 24) rfl ?_); refine gl_ (some 28) Try.func24 #[.agg #[.int .i64 t490, .slice Ao9 t491.length co9], .slice Ao10 t494.length co10, .slice Ao11 t497.length co11] ?_; (with_reducible refine (spec_TurnWalk.calls k t490 _ _ t491 _ _ t494 _ _ t497 t502 _ ?side1 ?side2 ?side3 ?side4 ?side5 ?side6 A13.out).mono ?_); (case side1 => exact nc_ (rR5 HO493.out).2.2); (case side2 => exact (rR5 HO493.out).2.1); (case side3 => exact nc_ (rR5 HO496.out).2.2); (case side4 => exact (rR5 HO496.out).2.1); (case side5 => exact nc_ (rR5 HO499.out).2.2); (case side6 => exact (rR5 HO499.out).2.1); rintro e w25 ⟨rfl, hb⟩; refine ⟨_, rfl, ?_⟩; replace HO493 := kR_ HO493 hb; replace HO496 := kR_ HO496 hb; replace HO499 := kR_ HO499 hb; replace BK500 := kb_ BK500 hb; replace HB := kB_ HB hb; (try clear hb); (try clear hb2); (try clear hk); (try clear hi); obtain ⟨hcz26_0, hcz26_1, hfz26_0, hfz26_1⟩ := cz2_ BK500.out) | (go_at_call 14; (with_reducible refine (impl_TurnsOk.calls k t490 _ _ t491 _ _ t494 false _ ?side1 ?side2 ?side3 ?side4 A15.out).mono ?_); (case side1 => exact nc_ (rR5 HO493.out).2.2); (case side2 => exact (rR5 HO493.out).2.1); (case side3 => exact nc_ (rR5 HO496.out).2.2); (case side4 => exact (rR5 HO496.out).2.1); rintro e w27 ⟨rfl, hb⟩; replace HO493 := kR_ HO493 hb; replace HO496 := kR_ HO496 hb; replace HO499 := kR_ HO499 hb; replace BK500 := kb_ BK500 hb; replace HB := kB_ HB hb; (try clear hb); (try clear hb2); (try clear hk); (try clear hi)))
    go_meet
    case rel => exact ⟨_, (true), ns_, H', ⟨by first | omega | exact Nat.le_refl _⟩, ⟨nr_ HO496.out⟩, ⟨nr_ HO499.out⟩, ⟨nr_ HO493.out⟩, ⟨nb_ BK500.out⟩, ⟨ne_ HB.out⟩⟩
   subst c16
   have H1 : ((impl_WalkOk.f k t490 t491 t497).bind fun t504 => (laws_FnTurnWalk.j0 k t494 t497 t501 (!t504) t490 t491)) = some r := by rw [if_pos rfl] at H; exact H
   clear H
   have H := H1
   clear H1
   replace H := Option.bind_eq_some_iff.mp H
   obtain ⟨t504, A170, H⟩ := H
   replace H : (laws_FnTurnWalk.j0 k t494 t497 t501 (!t504) t490 t491) = some r := H
   have A17 := Aside0.mk A170
   clear A170
   have H' := Aside0.mk H
   clear H
   obtain ⟨hcz18_0, hcz18_1, hfz18_0, hfz18_1⟩ := cz2_ BK500.out
   go_wp2_with (first | ((with_reducible refine gate_callee (f := 24) rfl ?_); refine gl_ (some 28) Try.func24 #[.agg #[.int .i64 t490, .slice Ao9 t491.length co9], .slice Ao10 t494.length co10, .slice Ao11 t497.length co11] ?_; (with_reducible refine (spec_TurnWalk.calls k t490 _ _ t491 _ _ t494 _ _ t497 t502 _ ?side1 ?side2 ?side3 ?side4 ?side5 ?side6 A13.out).mono ?_); (case side1 => exact nc_ (rR5 HO493.out).2.2); (case side2 => exact (rR5 HO493.out).2.1); (case side3 => exact nc_ (rR5 HO496.out).2.2); (case side4 => exact (rR5 HO496.out).2.1); (case side5 => exact nc_ (rR5 HO499.out).2.2); (case side6 => exact (rR5 HO499.out).2.1); rintro e w19 ⟨rfl, hb⟩; refine ⟨_, rfl, ?_⟩; replace HO493 := kR_ HO493 hb; replace HO496 := kR_ HO496 hb; replace HO499 := kR_ HO499 hb; replace BK500 := kb_ BK500 hb; replace HB := kB_ HB hb; (try clear hb); (try clear hb2); (try clear hk); (try clear hi); obtain ⟨hcz20_0, hcz20_1, hfz20_0, hfz20_1⟩ := cz2_ BK500.out) | (go_at_call 14; (with_reducible refine (impl_TurnsOk.calls k t490 _ _ t491 _ _ t494 true _ ?side1 ?side2 ?side3 ?side4 A15.out).mono ?_); (case side1 => exact nc_ (rR5 HO493.out).2.2); (case side2 => exact (rR5 HO493.out).2.1); (case side3 => exact nc_ (rR5 HO496.out).2.2); (case side4 => exact (rR5 HO496.out).2.1); rintro e w21 ⟨rfl, hb⟩; replace HO493 := kR_ HO493 hb; replace HO496 := kR_ HO496 hb; replace HO499 := kR_ HO499 hb; replace BK500 := kb_ BK500 hb; replace HB := kB_ HB hb; (try clear hb); (try clear hb2); (try clear hk); (try clear hi); obtain ⟨hcz22_0, hcz22_1, hfz22_0, hfz22_1⟩ := cz2_ BK500.out) | (go_at_call 25; (with_reducible refine (impl_WalkOk.calls k t490 _ _ t491 _ _ t497 t504 _ ?side1 ?side2 ?side3 ?side4 A17.out).mono ?_); (case side1 => exact nc_ (rR5 HO493.out).2.2); (case side2 => exact (rR5 HO493.out).2.1); (case side3 => exact nc_ (rR5 HO499.out).2.2); (case side4 => exact (rR5 HO499.out).2.1); rintro e w23 ⟨rfl, hb⟩; replace HO493 := kR_ HO493 hb; replace HO496 := kR_ HO496 hb; replace HO499 := kR_ HO499 hb; replace BK500 := kb_ BK500 hb; replace HB := kB_ HB hb; (try clear hb); (try clear hb2); (try clear hk); (try clear hi)))
   go_meet
   case rel => exact ⟨_, (!t504), ns_, H', ⟨by first | omega | exact Nat.le_refl _⟩, ⟨nr_ HO496.out⟩, ⟨nr_ HO499.out⟩, ⟨nr_ HO493.out⟩, ⟨nb_ BK500.out⟩, ⟨ne_ HB.out⟩⟩
  case rest =>
   clear HC5
   try clear c1
   try clear c2
   try clear c2b0
   try clear c2b1
   try clear p2
   try clear c5
   try clear c14
   try clear c14b0
   try clear c14b1
   try clear c16
   try clear c22
   try clear c23
   try clear c24
   try clear hcz18_0
   try clear hcz18_1
   try clear hcz20_0
   try clear hcz20_1
   try clear hcz22_0
   try clear hcz22_1
   try clear hcz24_0
   try clear hcz24_1
   try clear hcz26_0
   try clear hcz26_1
   try clear hcz28_0
   try clear hcz28_1
   try clear hcz8_0
   try clear hcz8_1
   try clear hfz18_0
   try clear hfz18_1
   try clear hfz20_0
   try clear hfz20_1
   try clear hfz22_0
   try clear hfz22_1
   try clear hfz24_0
   try clear hfz24_1
   try clear hfz26_0
   try clear hfz26_1
   try clear hfz28_0
   try clear hfz28_1
   try clear hfz8_0
   try clear hfz8_1
   obtain ⟨kq, x41_4, rfl, HA, HJ4, HO_4, HO_5, HO_501001, BK500, HB⟩ := hcut
   cases kq with
   | zero => exact absurd HA.out (by simp [laws_FnTurnWalk.j0])
   | succ kj4 =>
    have H := HA.out
    clear HA
    simp only [laws_FnTurnWalk.j0] at H
    by_cases c30 : x41_4 = true
    ·subst c30
     have H1 : ((spec_TurnWalk.f kj4 t490 t491 t494 t497).bind fun t505 => (some (t501 == t505))) = some r := by rw [if_pos rfl] at H; exact H
     clear H
     have H := H1
     clear H1
     replace H := Option.bind_eq_some_iff.mp H
     obtain ⟨t505, A310, H⟩ := H
     replace H : (some (t501 == t505)) = some r := H
     have A31 := Aside0.mk A310
     clear A310
     obtain rfl := Option.some.inj H
     obtain ⟨hcz32_0, hcz32_1, hfz32_0, hfz32_1⟩ := cz2_ BK500.out
     go_wp2_with (first | ((with_reducible refine gate_callee (f := 24) rfl ?_); refine gl_ (some 46) Try.func24 #[.agg #[.int .i64 t490, .slice Ao9 t491.length co9], .slice Ao10 t494.length co10, .slice Ao11 t497.length co11] ?_; (with_reducible refine (spec_TurnWalk.calls kj4 t490 _ _ t491 _ _ t494 _ _ t497 t505 _ ?side1 ?side2 ?side3 ?side4 ?side5 ?side6 A31.out).mono ?_); (case side1 => exact nc_ (rR5 HO_501001.out).2.2); (case side2 => exact (rR5 HO_501001.out).2.1); (case side3 => exact nc_ (rR5 HO_4.out).2.2); (case side4 => exact (rR5 HO_4.out).2.1); (case side5 => exact nc_ (rR5 HO_5.out).2.2); (case side6 => exact (rR5 HO_5.out).2.1); rintro e w33 ⟨rfl, hb⟩; refine ⟨_, rfl, ?_⟩; replace HO_4 := kR_ HO_4 hb; replace HO_5 := kR_ HO_5 hb; replace HO_501001 := kR_ HO_501001 hb; replace BK500 := kb_ BK500 hb; replace HB := kB_ HB hb; (try clear hb); (try clear hb2); (try clear hk); (try clear hi)))
     go_ret
     exact ⟨nw_, ne_ HB.out⟩
    replace c30 := Bool.eq_false_iff.mpr c30
    subst c30
    have H1 : ((impl_WalkCost.f kj4 t490 t491 t497).bind fun t506 => (laws_FnTurnWalk.l0 kj4 t494 t497 t501 false t506 1 t490 t491)) = some r := by rw [if_neg (show ¬ (false = true) by decide)] at H; exact H
    clear H
    have H := H1
    clear H1
    replace H := Option.bind_eq_some_iff.mp H
    obtain ⟨t506, A340, H⟩ := H
    replace H : (laws_FnTurnWalk.l0 kj4 t494 t497 t501 false t506 1 t490 t491) = some r := H
    have A34 := Aside0.mk A340
    clear A340
    have H' := Aside0.mk H
    clear H
    obtain ⟨hcz35_0, hcz35_1, hfz35_0, hfz35_1⟩ := cz2_ BK500.out
    go_wp2_with (first | ((with_reducible refine gate_callee (f := 26) rfl ?_); refine gl_ (some 50) Try.func26 #[.agg #[.int .i64 t490, .slice Ao9 t491.length co9], .slice Ao11 t497.length co11] ?_; (with_reducible refine (impl_WalkCost.calls kj4 t490 _ _ t491 _ _ t497 t506 _ ?side1 ?side2 ?side3 ?side4 A34.out).mono ?_); (case side1 => exact nc_ (rR5 HO_501001.out).2.2); (case side2 => exact (rR5 HO_501001.out).2.1); (case side3 => exact nc_ (rR5 HO_5.out).2.2); (case side4 => exact (rR5 HO_5.out).2.1); rintro e w36 ⟨rfl, hb⟩; refine ⟨_, rfl, ?_⟩; replace HO_4 := kR_ HO_4 hb; replace HO_5 := kR_ HO_5 hb; replace HO_501001 := kR_ HO_501001 hb; replace BK500 := kb_ BK500 hb; replace HB := kB_ HB hb; (try clear hb); (try clear hb2); (try clear hk); (try clear hi)))
    go_loopg [7, 8, 9] kj4 (fun kq v7 v8 v9 w' => ∃ (x7_2 : Bool) (x8_2 : Int) (x9_2 : Int), v7 = .bool x7_2 ∧ v8 = .int .i64 x8_2 ∧ v9 = .int .i64 x9_2 ∧ Aside0 (laws_FnTurnWalk.l0 kq t494 t497 t501 x7_2 x8_2 x9_2 t490 t491 = some r) ∧ Aside0 (kq ≤ kj4) ∧ Aside0 (Kd.R k31 31 w' w.heap.size (fun _ => True) (.slice Ao10 t494.length co10) t494) ∧ Aside0 (Kd.R (Kd.int .i64) 3 w' w.heap.size (fun _ => True) (.slice Ao11 t497.length co11) t497) ∧ Aside0 (Kd.R k33 33 w' w.heap.size (fun _ => True) (.slice Ao9 t491.length co9) t491) ∧ Aside0 (w'.heap[gb500]? = some (.cells #[.int .i64 t490, (.slice Ao9 t491.length co9)] 25 (0, 0))) ∧ Aside0 (Below w.heap.size w w'))
    case atStart => exact ⟨(false), (t506), (1), ns_, ns_, ns_, H', ⟨Nat.le_refl _⟩, ⟨nr_ HO_4.out⟩, ⟨nr_ HO_5.out⟩, ⟨nr_ HO_501001.out⟩, ⟨nb_ BK500.out⟩, ⟨ne_ HB.out⟩⟩
    case round =>
     clear H'
     try clear c1
     try clear c2
     try clear c2b0
     try clear c2b1
     try clear p2
     try clear c3
     try clear c5
     try clear c14
     try clear c14b0
     try clear c14b1
     try clear c16
     try clear c22
     try clear c23
     try clear c24
     try clear c26
     try clear c30
     try clear hcz18_0
     try clear hcz18_1
     try clear hcz20_0
     try clear hcz20_1
     try clear hcz22_0
     try clear hcz22_1
     try clear hcz24_0
     try clear hcz24_1
     try clear hcz26_0
     try clear hcz26_1
     try clear hcz28_0
     try clear hcz28_1
     try clear hcz32_0
     try clear hcz32_1
     try clear hcz35_0
     try clear hcz35_1
     try clear hcz8_0
     try clear hcz8_1
     try clear hfz18_0
     try clear hfz18_1
     try clear hfz20_0
     try clear hfz20_1
     try clear hfz22_0
     try clear hfz22_1
     try clear hfz24_0
     try clear hfz24_1
     try clear hfz26_0
     try clear hfz26_1
     try clear hfz28_0
     try clear hfz28_1
     try clear hfz32_0
     try clear hfz32_1
     try clear hfz35_0
     try clear hfz35_1
     try clear hfz8_0
     try clear hfz8_1
     try clear p2
     obtain ⟨x7_2, x8_2, x9_2, rfl, rfl, rfl, HA, HK2, HO_4, HO_5, HO_501001, BK500, HB⟩ := hrel
     cases gk with
     | zero => exact absurd HA.out (by simp [laws_FnTurnWalk.l0])
     | succ k2 =>
      have H := HA.out
      clear HA
      simp only [laws_FnTurnWalk.l0] at H
      by_cases c37 : x9_2 < (t497.length : Int)
      rotate_left
      ·rw [if_neg c37] at H
       have c37b0 : decide (x9_2 < (t497.length : Int)) = false := decide_eq_false c37
       clear c37
       replace H := Option.bind_eq_some_iff.mp H
       obtain ⟨t507, A520, H⟩ := H
       replace H : ((impl_WalkCost.f k2 t490 t491 t497).bind fun t508 => (if t507 = t508 then (if x7_2 = true then (if t501 = (-1) then (some true) else (some false)) else (some (t501 == x8_2))) else (some false))) = some r := H
       have A52 := Aside0.mk A520
       clear A520
       replace H := Option.bind_eq_some_iff.mp H
       obtain ⟨t508, A530, H⟩ := H
       replace H : (if t507 = t508 then (if x7_2 = true then (if t501 = (-1) then (some true) else (some false)) else (some (t501 == x8_2))) else (some false)) = some r := H
       have A53 := Aside0.mk A530
       clear A530
       by_cases c54 : t507 = t508
       rotate_left
       ·rw [if_neg c54] at H
        have c54b0 : (t507 == t508) = false := beq_eq_false_iff_ne.mpr c54
        have c54b1 : (t507 != t508) = true := bne_iff_ne.mpr c54
        obtain rfl := Option.some.inj H
        try go_wp2
        replace HO_4 := Aside0.mk (Kd.R_drew HO_4.out)
        replace HO_5 := Aside0.mk (Kd.R_drew HO_5.out)
        replace HO_501001 := Aside0.mk (Kd.R_drew HO_501001.out)
        replace BK500 := Aside0.mk (blk_drew BK500.out)
        replace HB := Aside0.mk (below_drew1 HB.out)
        refine start_ (n := 24) (S := fun w' => w'.cell? ⟨gb500, 0, none⟩ = some (.int .i64 t490) ∧ w'.cell? ⟨gb500, 1, none⟩ = some (.slice Ao9 t491.length co9)) (ds := []) z5_24 (by kernel_rfl) rfl rfl ⟨ct_ BK500.out 0, ct_ BK500.out 1⟩ (fun hHeld => ?_); refine with_tabW laws_FnTurnWalk.tab18 laws_FnTurnWalk.bits18 (fun HT_ HW_ => ?_)
        generalize wr.drew = w66 at HO_4 HO_5 HO_501001 BK500 HB hHeld ⊢
        refine pu_ 1 103 z5_25 HT_.out ?_
        refine pu_ 4 106 z5_26 HT_.out ?_
        refine tk_ 0 102 z5_27 HT_.out HW_.out hHeld ?_
        refine tk_ 3 105 z5_28 HT_.out HW_.out hHeld ?_
        refine one_ (i := 2) (N := some 104) z5_29 rfl rfl (one_of HT_.out (by kernel_rfl)) (by decide) (fun K hK => ?_)
        refine go_ Try.func23 #[.agg #[.int .i64 t490, .slice Ao9 t491.length co9], .slice none 0 0, .slice Ao11 t497.length co11] ?_
        refine (impl_TurnWalk.calls k2 t490 _ _ t491 _ _ ([] : List (S31)) _ _ t497 t507 _ ?side1 ?side2 ?side3 ?side4 ?side5 ?side6 A52.out).mono ?_
        (case side1 => exact nc_ (rR5 HO_501001.out).2.2)
        (case side2 => exact (rR5 HO_501001.out).2.1)
        (case side3 => exact Kd.C_nil _ _)
        (case side4 => exact Nat.le_refl _)
        (case side5 => exact nc_ (rR5 HO_5.out).2.2)
        (case side6 => exact (rR5 HO_5.out).2.1)
        rintro e w67 ⟨rfl, hb⟩
        refine ⟨_, rfl, ?_⟩
        replace HO_4 := kR_ HO_4 hb
        replace HO_5 := kR_ HO_5 hb
        replace HO_501001 := kR_ HO_501001 hb
        replace BK500 := kb_ BK500 hb
        replace HB := kB_ HB hb
        (try clear hb)
        (try clear hb2)
        (try clear hk)
        (try clear hi)
        refine hK.out _ _ ⟨ct_ BK500.out 0, ct_ BK500.out 1⟩ (fun hHeld => ?_)
        clear hK K
        refine nm1_ (some 104) ?_
        refine one_ (i := 5) (N := some 107) z5_30 rfl rfl (one_of HT_.out (by kernel_rfl)) (by decide) (fun K hK => ?_)
        refine go_ Try.func26 #[.agg #[.int .i64 t490, .slice Ao9 t491.length co9], .slice Ao11 t497.length co11] ?_
        with_reducible refine (impl_WalkCost.calls k2 t490 _ _ t491 _ _ t497 t508 _ ?side1 ?side2 ?side3 ?side4 A53.out).mono ?_
        (case side1 => exact nc_ (rR5 HO_501001.out).2.2)
        (case side2 => exact (rR5 HO_501001.out).2.1)
        (case side3 => exact nc_ (rR5 HO_5.out).2.2)
        (case side4 => exact (rR5 HO_5.out).2.1)
        rintro e w68 ⟨rfl, hb⟩
        refine ⟨_, rfl, ?_⟩
        replace HO_4 := kR_ HO_4 hb
        replace HO_5 := kR_ HO_5 hb
        replace HO_501001 := kR_ HO_501001 hb
        replace BK500 := kb_ BK500 hb
        replace HB := kB_ HB hb
        (try clear hb)
        (try clear hb2)
        (try clear hk)
        (try clear hi)
        refine hK.out _ _ ⟨ct_ BK500.out 0, ct_ BK500.out 1⟩ (fun hHeld => ?_)
        clear hK K
        refine nm1_ (some 107) ?_
        refine pu_ 6 108 z5_31 HT_.out ?_
        refine pu_ 7 109 z5_32 HT_.out ?_
        refine un_ 8 110 z5_33 HT_.out ?_
        refine un_ 9 111 z5_34 HT_.out ?_
        refine un_ 10 112 z5_35 HT_.out ?_
        refine un_ 11 113 z5_36 HT_.out ?_
        refine un_ 12 114 z5_37 HT_.out ?_
        refine un_ 13 115 z5_38 HT_.out ?_
        refine un_ 14 116 z5_39 HT_.out ?_
        refine un_ 15 117 z5_40 HT_.out ?_
        refine un_ 16 118 z5_41 HT_.out ?_
        refine un_ 17 119 z5_42 HT_.out ?_
        refine un_ 18 120 z5_43 HT_.out ?_
        refine un_ 19 121 z5_44 HT_.out ?_
        refine un_ 20 122 z5_45 HT_.out ?_
        refine un_ 21 123 z5_46 HT_.out ?_
        refine pu_ 22 124 z5_47 HT_.out ?_
        refine pu_ 23 2 z5_48 HT_.out ?_
        refine done_ (done_of HT_.out (by kernel_rfl)) ?_
        try go_wp2
        go_ret
        exact ⟨nw_, ne_ HB.out⟩

       rw [if_pos c54] at H
       have c54b0 : (t507 == t508) = true := beq_iff_eq.mpr c54
       have c54b1 : (t507 != t508) = false := bne_eq_false_iff_eq.mpr c54
       clear c54
       by_cases c55 : x7_2 = true
       rotate_left
       ·replace c55 := Bool.eq_false_iff.mpr c55
        subst c55
        have H1 : (some (t501 == x8_2)) = some r := by rw [if_neg (show ¬ (false = true) by decide)] at H; exact H
        clear H
        have H := H1
        clear H1
        obtain rfl := Option.some.inj H
        try go_wp2
        replace HO_4 := Aside0.mk (Kd.R_drew HO_4.out)
        replace HO_5 := Aside0.mk (Kd.R_drew HO_5.out)
        replace HO_501001 := Aside0.mk (Kd.R_drew HO_501001.out)
        replace BK500 := Aside0.mk (blk_drew BK500.out)
        replace HB := Aside0.mk (below_drew1 HB.out)
        refine start_ (n := 24) (S := fun w' => w'.cell? ⟨gb500, 0, none⟩ = some (.int .i64 t490) ∧ w'.cell? ⟨gb500, 1, none⟩ = some (.slice Ao9 t491.length co9)) (ds := []) z5_24 (by kernel_rfl) rfl rfl ⟨ct_ BK500.out 0, ct_ BK500.out 1⟩ (fun hHeld => ?_); refine with_tabW laws_FnTurnWalk.tab18 laws_FnTurnWalk.bits18 (fun HT_ HW_ => ?_)
        generalize wr.drew = w63 at HO_4 HO_5 HO_501001 BK500 HB hHeld ⊢
        refine pu_ 1 103 z5_25 HT_.out ?_
        refine pu_ 4 106 z5_26 HT_.out ?_
        refine tk_ 0 102 z5_27 HT_.out HW_.out hHeld ?_
        refine tk_ 3 105 z5_28 HT_.out HW_.out hHeld ?_
        refine one_ (i := 2) (N := some 104) z5_29 rfl rfl (one_of HT_.out (by kernel_rfl)) (by decide) (fun K hK => ?_)
        refine go_ Try.func23 #[.agg #[.int .i64 t490, .slice Ao9 t491.length co9], .slice none 0 0, .slice Ao11 t497.length co11] ?_
        refine (impl_TurnWalk.calls k2 t490 _ _ t491 _ _ ([] : List (S31)) _ _ t497 t507 _ ?side1 ?side2 ?side3 ?side4 ?side5 ?side6 A52.out).mono ?_
        (case side1 => exact nc_ (rR5 HO_501001.out).2.2)
        (case side2 => exact (rR5 HO_501001.out).2.1)
        (case side3 => exact Kd.C_nil _ _)
        (case side4 => exact Nat.le_refl _)
        (case side5 => exact nc_ (rR5 HO_5.out).2.2)
        (case side6 => exact (rR5 HO_5.out).2.1)
        rintro e w64 ⟨rfl, hb⟩
        refine ⟨_, rfl, ?_⟩
        replace HO_4 := kR_ HO_4 hb
        replace HO_5 := kR_ HO_5 hb
        replace HO_501001 := kR_ HO_501001 hb
        replace BK500 := kb_ BK500 hb
        replace HB := kB_ HB hb
        (try clear hb)
        (try clear hb2)
        (try clear hk)
        (try clear hi)
        refine hK.out _ _ ⟨ct_ BK500.out 0, ct_ BK500.out 1⟩ (fun hHeld => ?_)
        clear hK K
        refine nm1_ (some 104) ?_
        refine one_ (i := 5) (N := some 107) z5_30 rfl rfl (one_of HT_.out (by kernel_rfl)) (by decide) (fun K hK => ?_)
        refine go_ Try.func26 #[.agg #[.int .i64 t490, .slice Ao9 t491.length co9], .slice Ao11 t497.length co11] ?_
        with_reducible refine (impl_WalkCost.calls k2 t490 _ _ t491 _ _ t497 t508 _ ?side1 ?side2 ?side3 ?side4 A53.out).mono ?_
        (case side1 => exact nc_ (rR5 HO_501001.out).2.2)
        (case side2 => exact (rR5 HO_501001.out).2.1)
        (case side3 => exact nc_ (rR5 HO_5.out).2.2)
        (case side4 => exact (rR5 HO_5.out).2.1)
        rintro e w65 ⟨rfl, hb⟩
        refine ⟨_, rfl, ?_⟩
        replace HO_4 := kR_ HO_4 hb
        replace HO_5 := kR_ HO_5 hb
        replace HO_501001 := kR_ HO_501001 hb
        replace BK500 := kb_ BK500 hb
        replace HB := kB_ HB hb
        (try clear hb)
        (try clear hb2)
        (try clear hk)
        (try clear hi)
        refine hK.out _ _ ⟨ct_ BK500.out 0, ct_ BK500.out 1⟩ (fun hHeld => ?_)
        clear hK K
        refine nm1_ (some 107) ?_
        refine pu_ 6 108 z5_31 HT_.out ?_
        refine pu_ 7 109 z5_32 HT_.out ?_
        refine pu_ 8 110 z5_33 HT_.out ?_
        refine pu_ 9 111 z5_34 HT_.out ?_
        refine un_ 10 112 z5_35 HT_.out ?_
        refine un_ 11 113 z5_36 HT_.out ?_
        refine pu_ 12 114 z5_37 HT_.out ?_
        refine pu_ 13 115 z5_38 HT_.out ?_
        refine pu_ 14 116 z5_39 HT_.out ?_
        refine pu_ 15 117 z5_40 HT_.out ?_
        refine pu_ 16 118 z5_41 HT_.out ?_
        refine pu_ 17 119 z5_42 HT_.out ?_
        refine pu_ 18 120 z5_43 HT_.out ?_
        refine pu_ 19 121 z5_44 HT_.out ?_
        refine pu_ 20 122 z5_45 HT_.out ?_
        refine pu_ 21 123 z5_46 HT_.out ?_
        refine pu_ 22 124 z5_47 HT_.out ?_
        refine pu_ 23 2 z5_48 HT_.out ?_
        refine done_ (done_of HT_.out (by kernel_rfl)) ?_
        try go_wp2
        go_ret
        exact ⟨nw_, ne_ HB.out⟩
       subst c55
       have H1 : (if t501 = (-1) then (some true) else (some false)) = some r := by rw [if_pos rfl] at H; exact H
       clear H
       have H := H1
       clear H1
       by_cases c56 : t501 = (-1)
       rotate_left
       ·rw [if_neg c56] at H
        have c56b0 : (t501 == (-1)) = false := beq_eq_false_iff_ne.mpr c56
        have c56b1 : (t501 != (-1)) = true := bne_iff_ne.mpr c56
        obtain rfl := Option.some.inj H
        try go_wp2
        replace HO_4 := Aside0.mk (Kd.R_drew HO_4.out)
        replace HO_5 := Aside0.mk (Kd.R_drew HO_5.out)
        replace HO_501001 := Aside0.mk (Kd.R_drew HO_501001.out)
        replace BK500 := Aside0.mk (blk_drew BK500.out)
        replace HB := Aside0.mk (below_drew1 HB.out)
        refine start_ (n := 24) (S := fun w' => w'.cell? ⟨gb500, 0, none⟩ = some (.int .i64 t490) ∧ w'.cell? ⟨gb500, 1, none⟩ = some (.slice Ao9 t491.length co9)) (ds := []) z5_24 (by kernel_rfl) rfl rfl ⟨ct_ BK500.out 0, ct_ BK500.out 1⟩ (fun hHeld => ?_); refine with_tabW laws_FnTurnWalk.tab18 laws_FnTurnWalk.bits18 (fun HT_ HW_ => ?_)
        generalize wr.drew = w60 at HO_4 HO_5 HO_501001 BK500 HB hHeld ⊢
        refine pu_ 1 103 z5_25 HT_.out ?_
        refine pu_ 4 106 z5_26 HT_.out ?_
        refine tk_ 0 102 z5_27 HT_.out HW_.out hHeld ?_
        refine tk_ 3 105 z5_28 HT_.out HW_.out hHeld ?_
        refine one_ (i := 2) (N := some 104) z5_29 rfl rfl (one_of HT_.out (by kernel_rfl)) (by decide) (fun K hK => ?_)
        refine go_ Try.func23 #[.agg #[.int .i64 t490, .slice Ao9 t491.length co9], .slice none 0 0, .slice Ao11 t497.length co11] ?_
        refine (impl_TurnWalk.calls k2 t490 _ _ t491 _ _ ([] : List (S31)) _ _ t497 t507 _ ?side1 ?side2 ?side3 ?side4 ?side5 ?side6 A52.out).mono ?_
        (case side1 => exact nc_ (rR5 HO_501001.out).2.2)
        (case side2 => exact (rR5 HO_501001.out).2.1)
        (case side3 => exact Kd.C_nil _ _)
        (case side4 => exact Nat.le_refl _)
        (case side5 => exact nc_ (rR5 HO_5.out).2.2)
        (case side6 => exact (rR5 HO_5.out).2.1)
        rintro e w61 ⟨rfl, hb⟩
        refine ⟨_, rfl, ?_⟩
        replace HO_4 := kR_ HO_4 hb
        replace HO_5 := kR_ HO_5 hb
        replace HO_501001 := kR_ HO_501001 hb
        replace BK500 := kb_ BK500 hb
        replace HB := kB_ HB hb
        (try clear hb)
        (try clear hb2)
        (try clear hk)
        (try clear hi)
        refine hK.out _ _ ⟨ct_ BK500.out 0, ct_ BK500.out 1⟩ (fun hHeld => ?_)
        clear hK K
        refine nm1_ (some 104) ?_
        refine one_ (i := 5) (N := some 107) z5_30 rfl rfl (one_of HT_.out (by kernel_rfl)) (by decide) (fun K hK => ?_)
        refine go_ Try.func26 #[.agg #[.int .i64 t490, .slice Ao9 t491.length co9], .slice Ao11 t497.length co11] ?_
        with_reducible refine (impl_WalkCost.calls k2 t490 _ _ t491 _ _ t497 t508 _ ?side1 ?side2 ?side3 ?side4 A53.out).mono ?_
        (case side1 => exact nc_ (rR5 HO_501001.out).2.2)
        (case side2 => exact (rR5 HO_501001.out).2.1)
        (case side3 => exact nc_ (rR5 HO_5.out).2.2)
        (case side4 => exact (rR5 HO_5.out).2.1)
        rintro e w62 ⟨rfl, hb⟩
        refine ⟨_, rfl, ?_⟩
        replace HO_4 := kR_ HO_4 hb
        replace HO_5 := kR_ HO_5 hb
        replace HO_501001 := kR_ HO_501001 hb
        replace BK500 := kb_ BK500 hb
        replace HB := kB_ HB hb
        (try clear hb)
        (try clear hb2)
        (try clear hk)
        (try clear hi)
        refine hK.out _ _ ⟨ct_ BK500.out 0, ct_ BK500.out 1⟩ (fun hHeld => ?_)
        clear hK K
        refine nm1_ (some 107) ?_
        refine pu_ 6 108 z5_31 HT_.out ?_
        refine pu_ 7 109 z5_32 HT_.out ?_
        refine pu_ 8 110 z5_33 HT_.out ?_
        refine pu_ 9 111 z5_34 HT_.out ?_
        refine pu_ 10 112 z5_35 HT_.out ?_
        refine pu_ 11 113 z5_36 HT_.out ?_
        refine pu_ 12 114 z5_37 HT_.out ?_
        refine pu_ 13 115 z5_38 HT_.out ?_
        refine pu_ 14 116 z5_39 HT_.out ?_
        refine pu_ 15 117 z5_40 HT_.out ?_
        refine pu_ 16 118 z5_41 HT_.out ?_
        refine un_ 17 119 z5_42 HT_.out ?_
        refine un_ 18 120 z5_43 HT_.out ?_
        refine un_ 19 121 z5_44 HT_.out ?_
        refine pu_ 20 122 z5_45 HT_.out ?_
        refine pu_ 21 123 z5_46 HT_.out ?_
        refine pu_ 22 124 z5_47 HT_.out ?_
        refine pu_ 23 2 z5_48 HT_.out ?_
        refine done_ (done_of HT_.out (by kernel_rfl)) ?_
        try go_wp2
        go_ret
        exact ⟨nw_, ne_ HB.out⟩
       rw [if_pos c56] at H
       have c56b0 : (t501 == (-1)) = true := beq_iff_eq.mpr c56
       have c56b1 : (t501 != (-1)) = false := bne_eq_false_iff_eq.mpr c56
       clear c56
       obtain rfl := Option.some.inj H
       try go_wp2
       replace HO_4 := Aside0.mk (Kd.R_drew HO_4.out)
       replace HO_5 := Aside0.mk (Kd.R_drew HO_5.out)
       replace HO_501001 := Aside0.mk (Kd.R_drew HO_501001.out)
       replace BK500 := Aside0.mk (blk_drew BK500.out)
       replace HB := Aside0.mk (below_drew1 HB.out)
       refine start_ (n := 24) (S := fun w' => w'.cell? ⟨gb500, 0, none⟩ = some (.int .i64 t490) ∧ w'.cell? ⟨gb500, 1, none⟩ = some (.slice Ao9 t491.length co9)) (ds := []) z5_24 (by kernel_rfl) rfl rfl ⟨ct_ BK500.out 0, ct_ BK500.out 1⟩ (fun hHeld => ?_); refine with_tabW laws_FnTurnWalk.tab18 laws_FnTurnWalk.bits18 (fun HT_ HW_ => ?_)
       generalize wr.drew = w57 at HO_4 HO_5 HO_501001 BK500 HB hHeld ⊢
       refine pu_ 1 103 z5_25 HT_.out ?_
       refine pu_ 4 106 z5_26 HT_.out ?_
       refine tk_ 0 102 z5_27 HT_.out HW_.out hHeld ?_
       refine tk_ 3 105 z5_28 HT_.out HW_.out hHeld ?_
       refine one_ (i := 2) (N := some 104) z5_29 rfl rfl (one_of HT_.out (by kernel_rfl)) (by decide) (fun K hK => ?_)
       refine go_ Try.func23 #[.agg #[.int .i64 t490, .slice Ao9 t491.length co9], .slice none 0 0, .slice Ao11 t497.length co11] ?_
       refine (impl_TurnWalk.calls k2 t490 _ _ t491 _ _ ([] : List (S31)) _ _ t497 t507 _ ?side1 ?side2 ?side3 ?side4 ?side5 ?side6 A52.out).mono ?_
       (case side1 => exact nc_ (rR5 HO_501001.out).2.2)
       (case side2 => exact (rR5 HO_501001.out).2.1)
       (case side3 => exact Kd.C_nil _ _)
       (case side4 => exact Nat.le_refl _)
       (case side5 => exact nc_ (rR5 HO_5.out).2.2)
       (case side6 => exact (rR5 HO_5.out).2.1)
       rintro e w58 ⟨rfl, hb⟩
       refine ⟨_, rfl, ?_⟩
       replace HO_4 := kR_ HO_4 hb
       replace HO_5 := kR_ HO_5 hb
       replace HO_501001 := kR_ HO_501001 hb
       replace BK500 := kb_ BK500 hb
       replace HB := kB_ HB hb
       (try clear hb)
       (try clear hb2)
       (try clear hk)
       (try clear hi)
       refine hK.out _ _ ⟨ct_ BK500.out 0, ct_ BK500.out 1⟩ (fun hHeld => ?_)
       clear hK K
       refine nm1_ (some 104) ?_
       refine one_ (i := 5) (N := some 107) z5_30 rfl rfl (one_of HT_.out (by kernel_rfl)) (by decide) (fun K hK => ?_)
       refine go_ Try.func26 #[.agg #[.int .i64 t490, .slice Ao9 t491.length co9], .slice Ao11 t497.length co11] ?_
       with_reducible refine (impl_WalkCost.calls k2 t490 _ _ t491 _ _ t497 t508 _ ?side1 ?side2 ?side3 ?side4 A53.out).mono ?_
       (case side1 => exact nc_ (rR5 HO_501001.out).2.2)
       (case side2 => exact (rR5 HO_501001.out).2.1)
       (case side3 => exact nc_ (rR5 HO_5.out).2.2)
       (case side4 => exact (rR5 HO_5.out).2.1)
       rintro e w59 ⟨rfl, hb⟩
       refine ⟨_, rfl, ?_⟩
       replace HO_4 := kR_ HO_4 hb
       replace HO_5 := kR_ HO_5 hb
       replace HO_501001 := kR_ HO_501001 hb
       replace BK500 := kb_ BK500 hb
       replace HB := kB_ HB hb
       (try clear hb)
       (try clear hb2)
       (try clear hk)
       (try clear hi)
       refine hK.out _ _ ⟨ct_ BK500.out 0, ct_ BK500.out 1⟩ (fun hHeld => ?_)
       clear hK K
       refine nm1_ (some 107) ?_
       refine pu_ 6 108 z5_31 HT_.out ?_
       refine pu_ 7 109 z5_32 HT_.out ?_
       refine pu_ 8 110 z5_33 HT_.out ?_
       refine pu_ 9 111 z5_34 HT_.out ?_
       refine pu_ 10 112 z5_35 HT_.out ?_
       refine pu_ 11 113 z5_36 HT_.out ?_
       refine pu_ 12 114 z5_37 HT_.out ?_
       refine pu_ 13 115 z5_38 HT_.out ?_
       refine un_ 14 116 z5_39 HT_.out ?_
       refine un_ 15 117 z5_40 HT_.out ?_
       refine un_ 16 118 z5_41 HT_.out ?_
       refine un_ 17 119 z5_42 HT_.out ?_
       refine un_ 18 120 z5_43 HT_.out ?_
       refine un_ 19 121 z5_44 HT_.out ?_
       refine un_ 20 122 z5_45 HT_.out ?_
       refine pu_ 21 123 z5_46 HT_.out ?_
       refine pu_ 22 124 z5_47 HT_.out ?_
       refine pu_ 23 2 z5_48 HT_.out ?_
       refine done_ (done_of HT_.out (by kernel_rfl)) ?_
       try go_wp2
       go_ret
       exact ⟨nw_, ne_ HB.out⟩
      rw [if_pos c37] at H
      have c37b0 : decide (x9_2 < (t497.length : Int)) = true := decide_eq_true c37
      clear c37
      have H' := Aside0.mk H
      clear H
      go_wp2
      go_loopg [7, 8, 10] k2 (fun kq v7 v8 v10 w' => ∃ (x7_3 : Bool) (x8_3 : Int) (x10_3 : Int), v7 = .bool x7_3 ∧ v8 = .int .i64 x8_3 ∧ v10 = .int .i64 x10_3 ∧ Aside0 (laws_FnTurnWalk.l1 kq t494 t497 t501 x7_3 x8_3 x9_2 x10_3 t490 t491 = some r) ∧ Aside0 (kq ≤ k2) ∧ Aside0 (Kd.R k31 31 w' w.heap.size (fun _ => True) (.slice Ao10 t494.length co10) t494) ∧ Aside0 (Kd.R (Kd.int .i64) 3 w' w.heap.size (fun _ => True) (.slice Ao11 t497.length co11) t497) ∧ Aside0 (Kd.R k33 33 w' w.heap.size (fun _ => True) (.slice Ao9 t491.length co9) t491) ∧ Aside0 (w'.heap[gb500]? = some (.cells #[.int .i64 t490, (.slice Ao9 t491.length co9)] 25 (0, 0))) ∧ Aside0 (Below w.heap.size w w'))
      case atStart => exact ⟨(x7_2), (x8_2), (0), ns_, ns_, ns_, H', ⟨Nat.le_refl _⟩, ⟨nr_ HO_4.out⟩, ⟨nr_ HO_5.out⟩, ⟨nr_ HO_501001.out⟩, ⟨nb_ BK500.out⟩, ⟨ne_ HB.out⟩⟩
      case round =>
       clear H'
       try clear c1
       try clear c2
       try clear c2b0
       try clear c2b1
       try clear p2
       try clear c3
       try clear c5
       try clear c14
       try clear c14b0
       try clear c14b1
       try clear c16
       try clear c22
       try clear c23
       try clear c24
       try clear c26
       try clear c30
       try clear c37
       try clear c37b0
       try clear hcz18_0
       try clear hcz18_1
       try clear hcz20_0
       try clear hcz20_1
       try clear hcz22_0
       try clear hcz22_1
       try clear hcz24_0
       try clear hcz24_1
       try clear hcz26_0
       try clear hcz26_1
       try clear hcz28_0
       try clear hcz28_1
       try clear hcz32_0
       try clear hcz32_1
       try clear hcz35_0
       try clear hcz35_1
       try clear hcz8_0
       try clear hcz8_1
       try clear hfz18_0
       try clear hfz18_1
       try clear hfz20_0
       try clear hfz20_1
       try clear hfz22_0
       try clear hfz22_1
       try clear hfz24_0
       try clear hfz24_1
       try clear hfz26_0
       try clear hfz26_1
       try clear hfz28_0
       try clear hfz28_1
       try clear hfz32_0
       try clear hfz32_1
       try clear hfz35_0
       try clear hfz35_1
       try clear hfz8_0
       try clear hfz8_1
       try clear p2
       obtain ⟨x7_3, x8_3, x10_3, rfl, rfl, rfl, HA, HK3, HO_4, HO_5, HO_501001, BK500, HB⟩ := hrel
       cases gk with
       | zero => exact absurd HA.out (by simp [laws_FnTurnWalk.l1])
       | succ k3 =>
        have H := HA.out
        clear HA
        simp only [laws_FnTurnWalk.l1] at H
        by_cases c38 : x10_3 < (t494.length : Int)
        rotate_left
        ·rw [if_neg c38] at H
         have c38b0 : decide (x10_3 < (t494.length : Int)) = false := decide_eq_false c38
         clear c38
         have H' := Aside0.mk H
         clear H
         go_wp2
         go_roundg k3
         case measure => have := HJ4.out; have := HK2.out; have := HK3.out; omega
         case rel => exact ⟨(x7_3), (x8_3), (wrap64 (x9_2 + 1)), ns_, ns_, ns_, H', ⟨by have := HJ4.out; have := HK2.out; have := HK3.out; omega⟩, ⟨nr_ HO_4.out⟩, ⟨nr_ HO_5.out⟩, ⟨nr_ HO_501001.out⟩, ⟨nb_ BK500.out⟩, ⟨ne_ HB.out⟩⟩
        rw [if_pos c38] at H
        have c38b0 : decide (x10_3 < (t494.length : Int)) = true := decide_eq_true c38
        clear c38
        by_cases c39 : 0 ≤ x10_3
        rotate_left
        ·rw [if_neg c39] at H
         exact absurd H (by simp)
        rw [if_pos c39] at H
        have c39b0 : decide (0 ≤ x10_3) = true := decide_eq_true c39
        clear c39
        obtain ⟨ji40, hji40⟩ : ∃ j_ : Int, (wrap64 (x9_2 - 1)) = j_ := ⟨_, rfl⟩
        replace H : (if 0 ≤ (ji40) then (if (ji40) < (t497.length : Int) then (if ((rd_T31 t494 x10_3).f0) = (rd t497 (ji40)) then (if 0 ≤ x9_2 then (if x9_2 < (t497.length : Int) then (if ((rd_T31 t494 x10_3).f1) = (rd t497 x9_2) then (if x7_3 = true then (laws_FnTurnWalk.l1 k3 t494 t497 t501 true (wrap64 (x8_3 + ((rd_T31 t494 x10_3).f2))) x9_2 (wrap64 (x10_3 + 1)) t490 t491) else (laws_FnTurnWalk.l1 k3 t494 t497 t501 (decide (((rd_T31 t494 x10_3).f2) < 0)) (wrap64 (x8_3 + ((rd_T31 t494 x10_3).f2))) x9_2 (wrap64 (x10_3 + 1)) t490 t491)) else (laws_FnTurnWalk.l1 k3 t494 t497 t501 x7_3 x8_3 x9_2 (wrap64 (x10_3 + 1)) t490 t491)) else (none)) else (none)) else (laws_FnTurnWalk.l1 k3 t494 t497 t501 x7_3 x8_3 x9_2 (wrap64 (x10_3 + 1)) t490 t491)) else (none)) else (none)) = some r := by first | (rw [hji40] at H; exact H) | (simp only [hji40] at H ⊢; exact H)
        have hji40w : (IntKind.i64.wrap (x9_2 - 1)) = ji40 := (i64_w _).trans hji40
        by_cases c41 : 0 ≤ (ji40)
        rotate_left
        ·rw [if_neg c41] at H
         exact absurd H (by simp)
        rw [if_pos c41] at H
        have c41b0 : decide (0 ≤ (ji40)) = true := decide_eq_true c41
        clear c41
        by_cases c42 : (ji40) < (t497.length : Int)
        rotate_left
        ·rw [if_neg c42] at H
         exact absurd H (by simp)
        rw [if_pos c42] at H
        have c42b0 : decide ((ji40) < (t497.length : Int)) = true := decide_eq_true c42
        clear c42
        by_cases c43 : ((rd_T31 t494 x10_3).f0) = (rd t497 (ji40))
        rotate_left
        ·rw [if_neg c43] at H
         have c43b0 : (((rd_T31 t494 x10_3).f0) == (rd t497 (ji40))) = false := beq_eq_false_iff_ne.mpr c43
         have c43b1 : (((rd_T31 t494 x10_3).f0) != (rd t497 (ji40))) = true := bne_iff_ne.mpr c43
         have H' := Aside0.mk H
         clear H
         try go_wp2
         replace HO_4 := Aside0.mk (Kd.R_drew HO_4.out)
         replace HO_5 := Aside0.mk (Kd.R_drew HO_5.out)
         replace HO_501001 := Aside0.mk (Kd.R_drew HO_501001.out)
         replace BK500 := Aside0.mk (blk_drew BK500.out)
         replace HB := Aside0.mk (below_drew1 HB.out)
         have p509 : 0 ≤ (x10_3 : Int) := of_decide_eq_true nx_
         have q509 : x10_3 < (t494.length : Int) := of_decide_eq_true nx_
         obtain ⟨ad509, e509, hx509_0, hx509_1, hx509_2⟩ := at_T31 (rR5 HO_4.out).2.2 x10_3 p509 q509
         cases e509
         replace p509 := eq_true p509
         replace q509 := eq_true q509
         have p510 : 0 ≤ ((ji40) : Int) := of_decide_eq_true nx_
         have q510 : (ji40) < (t497.length : Int) := of_decide_eq_true nx_
         obtain ⟨ad510, e510, hx510_0⟩ := Kd.at_int (rR5 HO_5.out).2.2 (ji40) p510 q510
         cases e510
         replace p510 := eq_true p510
         replace q510 := eq_true q510
         refine start_ (n := 23) (S := fun w' => w'.cell? (ad509.add ((x10_3).toNat * 3)) = some (.int .i64 ((rd_T31 t494 x10_3).f0)) ∧ w'.cell? ⟨(ad509.add ((x10_3).toNat * 3)).block, (ad509.add ((x10_3).toNat * 3)).off + 1, none⟩ = some (.int .i64 ((rd_T31 t494 x10_3).f1)) ∧ w'.cell? ⟨(ad509.add ((x10_3).toNat * 3)).block, (ad509.add ((x10_3).toNat * 3)).off + 2, none⟩ = some (.int .i64 ((rd_T31 t494 x10_3).f2)) ∧ w'.cell? (ad510.add ((ji40)).toNat) = some (.int .i64 (rd t497 (ji40)))) (ds := []) z5_0 (by kernel_rfl) rfl rfl ⟨hx509_0, hx509_1, hx509_2, hx510_0⟩ (fun hHeld => ?_); refine with_tabW laws_FnTurnWalk.tab15 laws_FnTurnWalk.bits15 (fun HT_ HW_ => ?_)
         generalize wr.drew = w51 at HO_4 HO_5 HO_501001 BK500 HB hx509_0 hx509_1 hx509_2 hx510_0 hHeld ⊢
         refine pu_ 0 63 z5_1 HT_.out ?_
         refine pu_ 1 64 z5_2 HT_.out ?_
         refine pu_ 2 65 z5_3 HT_.out ?_
         refine pu_ 3 66 z5_4 HT_.out ?_
         refine pu_ 5 68 z5_5 HT_.out ?_
         refine pu_ 6 69 z5_6 HT_.out ?_
         refine pu_ 7 70 z5_7 HT_.out ?_
         refine pu_ 8 71 z5_8 HT_.out ?_
         refine tk_ 4 67 z5_9 HT_.out HW_.out hHeld ?_
         refine tk_ 9 72 z5_10 HT_.out HW_.out hHeld ?_
         refine pu_ 10 73 z5_11 HT_.out ?_
         refine pu_ 11 74 z5_12 HT_.out ?_
         refine un_ 12 75 z5_13 HT_.out ?_
         refine un_ 13 76 z5_14 HT_.out ?_
         refine un_ 14 77 z5_15 HT_.out ?_
         refine un_ 15 78 z5_16 HT_.out ?_
         refine un_ 16 79 (bm_ 23 131071) HT_.out ?_
         refine un_ 17 80 (bm_ 23 262143) HT_.out ?_
         refine un_ 18 81 (bm_ 23 524287) HT_.out ?_
         refine un_ 19 82 z5_20 HT_.out ?_
         refine un_ 20 83 z5_21 HT_.out ?_
         refine un_ 21 84 z5_22 HT_.out ?_
         refine pu_ 22 85 z5_23 HT_.out ?_
         refine done_ (done_of HT_.out (by kernel_rfl)) ?_
         try go_wp2
         go_roundg k3
         case measure => have := HJ4.out; have := HK2.out; have := HK3.out; omega
         case rel => exact ⟨(x7_3), (x8_3), (wrap64 (x10_3 + 1)), ns_, ns_, ns_, H', ⟨by have := HJ4.out; have := HK2.out; have := HK3.out; omega⟩, ⟨nr_ HO_4.out⟩, ⟨nr_ HO_5.out⟩, ⟨nr_ HO_501001.out⟩, ⟨nb_ BK500.out⟩, ⟨ne_ HB.out⟩⟩
        rw [if_pos c43] at H
        have c43b0 : (((rd_T31 t494 x10_3).f0) == (rd t497 (ji40))) = true := beq_iff_eq.mpr c43
        have c43b1 : (((rd_T31 t494 x10_3).f0) != (rd t497 (ji40))) = false := bne_eq_false_iff_eq.mpr c43
        clear c43
        by_cases c44 : 0 ≤ x9_2
        rotate_left
        ·rw [if_neg c44] at H
         exact absurd H (by simp)
        rw [if_pos c44] at H
        have c44b0 : decide (0 ≤ x9_2) = true := decide_eq_true c44
        clear c44
        by_cases c45 : x9_2 < (t497.length : Int)
        rotate_left
        ·rw [if_neg c45] at H
         exact absurd H (by simp)
        rw [if_pos c45] at H
        have c45b0 : decide (x9_2 < (t497.length : Int)) = true := decide_eq_true c45
        clear c45
        by_cases c46 : ((rd_T31 t494 x10_3).f1) = (rd t497 x9_2)
        rotate_left
        ·rw [if_neg c46] at H
         have c46b0 : (((rd_T31 t494 x10_3).f1) == (rd t497 x9_2)) = false := beq_eq_false_iff_ne.mpr c46
         have c46b1 : (((rd_T31 t494 x10_3).f1) != (rd t497 x9_2)) = true := bne_iff_ne.mpr c46
         have H' := Aside0.mk H
         clear H
         try go_wp2
         replace HO_4 := Aside0.mk (Kd.R_drew HO_4.out)
         replace HO_5 := Aside0.mk (Kd.R_drew HO_5.out)
         replace HO_501001 := Aside0.mk (Kd.R_drew HO_501001.out)
         replace BK500 := Aside0.mk (blk_drew BK500.out)
         replace HB := Aside0.mk (below_drew1 HB.out)
         have p509 : 0 ≤ (x10_3 : Int) := of_decide_eq_true nx_
         have q509 : x10_3 < (t494.length : Int) := of_decide_eq_true nx_
         obtain ⟨ad509, e509, hx509_0, hx509_1, hx509_2⟩ := at_T31 (rR5 HO_4.out).2.2 x10_3 p509 q509
         cases e509
         replace p509 := eq_true p509
         replace q509 := eq_true q509
         have p510 : 0 ≤ ((ji40) : Int) := of_decide_eq_true nx_
         have q510 : (ji40) < (t497.length : Int) := of_decide_eq_true nx_
         obtain ⟨ad510, e510, hx510_0⟩ := Kd.at_int (rR5 HO_5.out).2.2 (ji40) p510 q510
         cases e510
         replace p510 := eq_true p510
         replace q510 := eq_true q510
         have p511 : 0 ≤ (x10_3 : Int) := of_decide_eq_true nx_
         have q511 : x10_3 < (t494.length : Int) := of_decide_eq_true nx_
         obtain ⟨ad511, e511, hx511_0, hx511_1, hx511_2⟩ := at_T31 (rR5 HO_4.out).2.2 x10_3 p511 q511
         obtain rfl : ad509 = ad511 := (by injection e511)
         replace p511 := eq_true p511
         replace q511 := eq_true q511
         have p512 : 0 ≤ (x9_2 : Int) := of_decide_eq_true nx_
         have q512 : x9_2 < (t497.length : Int) := of_decide_eq_true nx_
         obtain ⟨ad512, e512, hx512_0⟩ := Kd.at_int (rR5 HO_5.out).2.2 x9_2 p512 q512
         obtain rfl : ad510 = ad512 := (by injection e512)
         replace p512 := eq_true p512
         replace q512 := eq_true q512
         refine start_ (n := 23) (S := fun w' => w'.cell? (ad509.add ((x10_3).toNat * 3)) = some (.int .i64 ((rd_T31 t494 x10_3).f0)) ∧ w'.cell? ⟨(ad509.add ((x10_3).toNat * 3)).block, (ad509.add ((x10_3).toNat * 3)).off + 1, none⟩ = some (.int .i64 ((rd_T31 t494 x10_3).f1)) ∧ w'.cell? ⟨(ad509.add ((x10_3).toNat * 3)).block, (ad509.add ((x10_3).toNat * 3)).off + 2, none⟩ = some (.int .i64 ((rd_T31 t494 x10_3).f2)) ∧ w'.cell? (ad510.add ((ji40)).toNat) = some (.int .i64 (rd t497 (ji40))) ∧ w'.cell? (ad509.add ((x10_3).toNat * 3)) = some (.int .i64 ((rd_T31 t494 x10_3).f0)) ∧ w'.cell? ⟨(ad509.add ((x10_3).toNat * 3)).block, (ad509.add ((x10_3).toNat * 3)).off + 1, none⟩ = some (.int .i64 ((rd_T31 t494 x10_3).f1)) ∧ w'.cell? ⟨(ad509.add ((x10_3).toNat * 3)).block, (ad509.add ((x10_3).toNat * 3)).off + 2, none⟩ = some (.int .i64 ((rd_T31 t494 x10_3).f2)) ∧ w'.cell? (ad510.add (x9_2).toNat) = some (.int .i64 (rd t497 x9_2))) (ds := []) z5_0 (by kernel_rfl) rfl rfl ⟨hx509_0, hx509_1, hx509_2, hx510_0, hx511_0, hx511_1, hx511_2, hx512_0⟩ (fun hHeld => ?_); refine with_tabW laws_FnTurnWalk.tab15 laws_FnTurnWalk.bits15 (fun HT_ HW_ => ?_)
         generalize wr.drew = w50 at HO_4 HO_5 HO_501001 BK500 HB hx509_0 hx509_1 hx509_2 hx510_0 hx511_0 hx511_1 hx511_2 hx512_0 hHeld ⊢
         refine pu_ 0 63 z5_1 HT_.out ?_
         refine pu_ 1 64 z5_2 HT_.out ?_
         refine pu_ 2 65 z5_3 HT_.out ?_
         refine pu_ 3 66 z5_4 HT_.out ?_
         refine pu_ 5 68 z5_5 HT_.out ?_
         refine pu_ 6 69 z5_6 HT_.out ?_
         refine pu_ 7 70 z5_7 HT_.out ?_
         refine pu_ 8 71 z5_8 HT_.out ?_
         refine tk_ 4 67 z5_9 HT_.out HW_.out hHeld ?_
         refine tk_ 9 72 z5_10 HT_.out HW_.out hHeld ?_
         refine pu_ 10 73 z5_11 HT_.out ?_
         refine pu_ 11 74 z5_12 HT_.out ?_
         refine pu_ 12 75 z5_13 HT_.out ?_
         refine pu_ 13 76 z5_14 HT_.out ?_
         refine pu_ 14 77 z5_15 HT_.out ?_
         refine pu_ 15 78 z5_16 HT_.out ?_
         refine pu_ 17 80 z5_17 HT_.out ?_
         refine pu_ 18 81 z5_18 HT_.out ?_
         refine pu_ 19 82 z5_19 HT_.out ?_
         refine tk_ 16 79 z5_20 HT_.out HW_.out hHeld ?_
         refine tk_ 20 83 z5_21 HT_.out HW_.out hHeld ?_
         refine pu_ 21 84 z5_22 HT_.out ?_
         refine pu_ 22 85 z5_23 HT_.out ?_
         refine done_ (done_of HT_.out (by kernel_rfl)) ?_
         try go_wp2
         go_roundg k3
         case measure => have := HJ4.out; have := HK2.out; have := HK3.out; omega
         case rel => exact ⟨(x7_3), (x8_3), (wrap64 (x10_3 + 1)), ns_, ns_, ns_, H', ⟨by have := HJ4.out; have := HK2.out; have := HK3.out; omega⟩, ⟨nr_ HO_4.out⟩, ⟨nr_ HO_5.out⟩, ⟨nr_ HO_501001.out⟩, ⟨nb_ BK500.out⟩, ⟨ne_ HB.out⟩⟩
        rw [if_pos c46] at H
        have c46b0 : (((rd_T31 t494 x10_3).f1) == (rd t497 x9_2)) = true := beq_iff_eq.mpr c46
        have c46b1 : (((rd_T31 t494 x10_3).f1) != (rd t497 x9_2)) = false := bne_eq_false_iff_eq.mpr c46
        clear c46
        by_cases c47 : x7_3 = true
        ·subst c47
         have H1 : (laws_FnTurnWalk.l1 k3 t494 t497 t501 true (wrap64 (x8_3 + ((rd_T31 t494 x10_3).f2))) x9_2 (wrap64 (x10_3 + 1)) t490 t491) = some r := by rw [if_pos rfl] at H; exact H
         clear H
         have H := H1
         clear H1
         have H' := Aside0.mk H
         clear H
         try go_wp2
         replace HO_4 := Aside0.mk (Kd.R_drew HO_4.out)
         replace HO_5 := Aside0.mk (Kd.R_drew HO_5.out)
         replace HO_501001 := Aside0.mk (Kd.R_drew HO_501001.out)
         replace BK500 := Aside0.mk (blk_drew BK500.out)
         replace HB := Aside0.mk (below_drew1 HB.out)
         have p509 : 0 ≤ (x10_3 : Int) := of_decide_eq_true nx_
         have q509 : x10_3 < (t494.length : Int) := of_decide_eq_true nx_
         obtain ⟨ad509, e509, hx509_0, hx509_1, hx509_2⟩ := at_T31 (rR5 HO_4.out).2.2 x10_3 p509 q509
         cases e509
         replace p509 := eq_true p509
         replace q509 := eq_true q509
         have p510 : 0 ≤ ((ji40) : Int) := of_decide_eq_true nx_
         have q510 : (ji40) < (t497.length : Int) := of_decide_eq_true nx_
         obtain ⟨ad510, e510, hx510_0⟩ := Kd.at_int (rR5 HO_5.out).2.2 (ji40) p510 q510
         cases e510
         replace p510 := eq_true p510
         replace q510 := eq_true q510
         have p511 : 0 ≤ (x10_3 : Int) := of_decide_eq_true nx_
         have q511 : x10_3 < (t494.length : Int) := of_decide_eq_true nx_
         obtain ⟨ad511, e511, hx511_0, hx511_1, hx511_2⟩ := at_T31 (rR5 HO_4.out).2.2 x10_3 p511 q511
         obtain rfl : ad509 = ad511 := (by injection e511)
         replace p511 := eq_true p511
         replace q511 := eq_true q511
         have p512 : 0 ≤ (x9_2 : Int) := of_decide_eq_true nx_
         have q512 : x9_2 < (t497.length : Int) := of_decide_eq_true nx_
         obtain ⟨ad512, e512, hx512_0⟩ := Kd.at_int (rR5 HO_5.out).2.2 x9_2 p512 q512
         obtain rfl : ad510 = ad512 := (by injection e512)
         replace p512 := eq_true p512
         replace q512 := eq_true q512
         refine start_ (n := 23) (S := fun w' => w'.cell? (ad509.add ((x10_3).toNat * 3)) = some (.int .i64 ((rd_T31 t494 x10_3).f0)) ∧ w'.cell? ⟨(ad509.add ((x10_3).toNat * 3)).block, (ad509.add ((x10_3).toNat * 3)).off + 1, none⟩ = some (.int .i64 ((rd_T31 t494 x10_3).f1)) ∧ w'.cell? ⟨(ad509.add ((x10_3).toNat * 3)).block, (ad509.add ((x10_3).toNat * 3)).off + 2, none⟩ = some (.int .i64 ((rd_T31 t494 x10_3).f2)) ∧ w'.cell? (ad510.add ((ji40)).toNat) = some (.int .i64 (rd t497 (ji40))) ∧ w'.cell? (ad509.add ((x10_3).toNat * 3)) = some (.int .i64 ((rd_T31 t494 x10_3).f0)) ∧ w'.cell? ⟨(ad509.add ((x10_3).toNat * 3)).block, (ad509.add ((x10_3).toNat * 3)).off + 1, none⟩ = some (.int .i64 ((rd_T31 t494 x10_3).f1)) ∧ w'.cell? ⟨(ad509.add ((x10_3).toNat * 3)).block, (ad509.add ((x10_3).toNat * 3)).off + 2, none⟩ = some (.int .i64 ((rd_T31 t494 x10_3).f2)) ∧ w'.cell? (ad510.add (x9_2).toNat) = some (.int .i64 (rd t497 x9_2))) (ds := []) z5_0 (by kernel_rfl) rfl rfl ⟨hx509_0, hx509_1, hx509_2, hx510_0, hx511_0, hx511_1, hx511_2, hx512_0⟩ (fun hHeld => ?_); refine with_tabW laws_FnTurnWalk.tab15 laws_FnTurnWalk.bits15 (fun HT_ HW_ => ?_)
         generalize wr.drew = w48 at HO_4 HO_5 HO_501001 BK500 HB hx509_0 hx509_1 hx509_2 hx510_0 hx511_0 hx511_1 hx511_2 hx512_0 hHeld ⊢
         refine pu_ 0 63 z5_1 HT_.out ?_
         refine pu_ 1 64 z5_2 HT_.out ?_
         refine pu_ 2 65 z5_3 HT_.out ?_
         refine pu_ 3 66 z5_4 HT_.out ?_
         refine pu_ 5 68 z5_5 HT_.out ?_
         refine pu_ 6 69 z5_6 HT_.out ?_
         refine pu_ 7 70 z5_7 HT_.out ?_
         refine pu_ 8 71 z5_8 HT_.out ?_
         refine tk_ 4 67 z5_9 HT_.out HW_.out hHeld ?_
         refine tk_ 9 72 z5_10 HT_.out HW_.out hHeld ?_
         refine pu_ 10 73 z5_11 HT_.out ?_
         refine pu_ 11 74 z5_12 HT_.out ?_
         refine pu_ 12 75 z5_13 HT_.out ?_
         refine pu_ 13 76 z5_14 HT_.out ?_
         refine pu_ 14 77 z5_15 HT_.out ?_
         refine pu_ 15 78 z5_16 HT_.out ?_
         refine pu_ 17 80 z5_17 HT_.out ?_
         refine pu_ 18 81 z5_18 HT_.out ?_
         refine pu_ 19 82 z5_19 HT_.out ?_
         refine tk_ 16 79 z5_20 HT_.out HW_.out hHeld ?_
         refine tk_ 20 83 z5_21 HT_.out HW_.out hHeld ?_
         refine pu_ 21 84 z5_22 HT_.out ?_
         refine pu_ 22 85 z5_23 HT_.out ?_
         refine done_ (done_of HT_.out (by kernel_rfl)) ?_
         have p513 : 0 ≤ (x10_3 : Int) := of_decide_eq_true nx_
         have q513 : x10_3 < (t494.length : Int) := of_decide_eq_true nx_
         obtain ⟨ad513, e513, hx513_0, hx513_1, hx513_2⟩ := at_T31 (rR5 HO_4.out).2.2 x10_3 p513 q513
         obtain rfl : ad509 = ad513 := (by injection e513)
         replace p513 := eq_true p513
         replace q513 := eq_true q513
         try go_wp2
         go_roundg k3
         case measure => have := HJ4.out; have := HK2.out; have := HK3.out; omega
         case rel => exact ⟨(true), (wrap64 (x8_3 + ((rd_T31 t494 x10_3).f2))), (wrap64 (x10_3 + 1)), ns_, ns_, ns_, H', ⟨by have := HJ4.out; have := HK2.out; have := HK3.out; omega⟩, ⟨nr_ HO_4.out⟩, ⟨nr_ HO_5.out⟩, ⟨nr_ HO_501001.out⟩, ⟨nb_ BK500.out⟩, ⟨ne_ HB.out⟩⟩
        replace c47 := Bool.eq_false_iff.mpr c47
        subst c47
        have H1 : (laws_FnTurnWalk.l1 k3 t494 t497 t501 (decide (((rd_T31 t494 x10_3).f2) < 0)) (wrap64 (x8_3 + ((rd_T31 t494 x10_3).f2))) x9_2 (wrap64 (x10_3 + 1)) t490 t491) = some r := by rw [if_neg (show ¬ (false = true) by decide)] at H; exact H
        clear H
        have H := H1
        clear H1
        have H' := Aside0.mk H
        clear H
        try go_wp2
        replace HO_4 := Aside0.mk (Kd.R_drew HO_4.out)
        replace HO_5 := Aside0.mk (Kd.R_drew HO_5.out)
        replace HO_501001 := Aside0.mk (Kd.R_drew HO_501001.out)
        replace BK500 := Aside0.mk (blk_drew BK500.out)
        replace HB := Aside0.mk (below_drew1 HB.out)
        have p509 : 0 ≤ (x10_3 : Int) := of_decide_eq_true nx_
        have q509 : x10_3 < (t494.length : Int) := of_decide_eq_true nx_
        obtain ⟨ad509, e509, hx509_0, hx509_1, hx509_2⟩ := at_T31 (rR5 HO_4.out).2.2 x10_3 p509 q509
        cases e509
        replace p509 := eq_true p509
        replace q509 := eq_true q509
        have p510 : 0 ≤ ((ji40) : Int) := of_decide_eq_true nx_
        have q510 : (ji40) < (t497.length : Int) := of_decide_eq_true nx_
        obtain ⟨ad510, e510, hx510_0⟩ := Kd.at_int (rR5 HO_5.out).2.2 (ji40) p510 q510
        cases e510
        replace p510 := eq_true p510
        replace q510 := eq_true q510
        have p511 : 0 ≤ (x10_3 : Int) := of_decide_eq_true nx_
        have q511 : x10_3 < (t494.length : Int) := of_decide_eq_true nx_
        obtain ⟨ad511, e511, hx511_0, hx511_1, hx511_2⟩ := at_T31 (rR5 HO_4.out).2.2 x10_3 p511 q511
        obtain rfl : ad509 = ad511 := (by injection e511)
        replace p511 := eq_true p511
        replace q511 := eq_true q511
        have p512 : 0 ≤ (x9_2 : Int) := of_decide_eq_true nx_
        have q512 : x9_2 < (t497.length : Int) := of_decide_eq_true nx_
        obtain ⟨ad512, e512, hx512_0⟩ := Kd.at_int (rR5 HO_5.out).2.2 x9_2 p512 q512
        obtain rfl : ad510 = ad512 := (by injection e512)
        replace p512 := eq_true p512
        replace q512 := eq_true q512
        refine start_ (n := 23) (S := fun w' => w'.cell? (ad509.add ((x10_3).toNat * 3)) = some (.int .i64 ((rd_T31 t494 x10_3).f0)) ∧ w'.cell? ⟨(ad509.add ((x10_3).toNat * 3)).block, (ad509.add ((x10_3).toNat * 3)).off + 1, none⟩ = some (.int .i64 ((rd_T31 t494 x10_3).f1)) ∧ w'.cell? ⟨(ad509.add ((x10_3).toNat * 3)).block, (ad509.add ((x10_3).toNat * 3)).off + 2, none⟩ = some (.int .i64 ((rd_T31 t494 x10_3).f2)) ∧ w'.cell? (ad510.add ((ji40)).toNat) = some (.int .i64 (rd t497 (ji40))) ∧ w'.cell? (ad509.add ((x10_3).toNat * 3)) = some (.int .i64 ((rd_T31 t494 x10_3).f0)) ∧ w'.cell? ⟨(ad509.add ((x10_3).toNat * 3)).block, (ad509.add ((x10_3).toNat * 3)).off + 1, none⟩ = some (.int .i64 ((rd_T31 t494 x10_3).f1)) ∧ w'.cell? ⟨(ad509.add ((x10_3).toNat * 3)).block, (ad509.add ((x10_3).toNat * 3)).off + 2, none⟩ = some (.int .i64 ((rd_T31 t494 x10_3).f2)) ∧ w'.cell? (ad510.add (x9_2).toNat) = some (.int .i64 (rd t497 x9_2))) (ds := []) z5_0 (by kernel_rfl) rfl rfl ⟨hx509_0, hx509_1, hx509_2, hx510_0, hx511_0, hx511_1, hx511_2, hx512_0⟩ (fun hHeld => ?_); refine with_tabW laws_FnTurnWalk.tab15 laws_FnTurnWalk.bits15 (fun HT_ HW_ => ?_)
        generalize wr.drew = w49 at HO_4 HO_5 HO_501001 BK500 HB hx509_0 hx509_1 hx509_2 hx510_0 hx511_0 hx511_1 hx511_2 hx512_0 hHeld ⊢
        refine pu_ 0 63 z5_1 HT_.out ?_
        refine pu_ 1 64 z5_2 HT_.out ?_
        refine pu_ 2 65 z5_3 HT_.out ?_
        refine pu_ 3 66 z5_4 HT_.out ?_
        refine pu_ 5 68 z5_5 HT_.out ?_
        refine pu_ 6 69 z5_6 HT_.out ?_
        refine pu_ 7 70 z5_7 HT_.out ?_
        refine pu_ 8 71 z5_8 HT_.out ?_
        refine tk_ 4 67 z5_9 HT_.out HW_.out hHeld ?_
        refine tk_ 9 72 z5_10 HT_.out HW_.out hHeld ?_
        refine pu_ 10 73 z5_11 HT_.out ?_
        refine pu_ 11 74 z5_12 HT_.out ?_
        refine pu_ 12 75 z5_13 HT_.out ?_
        refine pu_ 13 76 z5_14 HT_.out ?_
        refine pu_ 14 77 z5_15 HT_.out ?_
        refine pu_ 15 78 z5_16 HT_.out ?_
        refine pu_ 17 80 z5_17 HT_.out ?_
        refine pu_ 18 81 z5_18 HT_.out ?_
        refine pu_ 19 82 z5_19 HT_.out ?_
        refine tk_ 16 79 z5_20 HT_.out HW_.out hHeld ?_
        refine tk_ 20 83 z5_21 HT_.out HW_.out hHeld ?_
        refine pu_ 21 84 z5_22 HT_.out ?_
        refine pu_ 22 85 z5_23 HT_.out ?_
        refine done_ (done_of HT_.out (by kernel_rfl)) ?_
        have p514 : 0 ≤ (x10_3 : Int) := of_decide_eq_true nx_
        have q514 : x10_3 < (t494.length : Int) := of_decide_eq_true nx_
        obtain ⟨ad514, e514, hx514_0, hx514_1, hx514_2⟩ := at_T31 (rR5 HO_4.out).2.2 x10_3 p514 q514
        obtain rfl : ad509 = ad514 := (by injection e514)
        replace p514 := eq_true p514
        replace q514 := eq_true q514
        have p515 : 0 ≤ (x10_3 : Int) := of_decide_eq_true nx_
        have q515 : x10_3 < (t494.length : Int) := of_decide_eq_true nx_
        obtain ⟨ad515, e515, hx515_0, hx515_1, hx515_2⟩ := at_T31 (rR5 HO_4.out).2.2 x10_3 p515 q515
        obtain rfl : ad509 = ad515 := (by injection e515)
        replace p515 := eq_true p515
        replace q515 := eq_true q515
        try go_wp2
        go_roundg k3
        case measure => have := HJ4.out; have := HK2.out; have := HK3.out; omega
        case rel => exact ⟨(decide (((rd_T31 t494 x10_3).f2) < 0)), (wrap64 (x8_3 + ((rd_T31 t494 x10_3).f2))), (wrap64 (x10_3 + 1)), ns_, ns_, ns_, H', ⟨by have := HJ4.out; have := HK2.out; have := HK3.out; omega⟩, ⟨nr_ HO_4.out⟩, ⟨nr_ HO_5.out⟩, ⟨nr_ HO_501001.out⟩, ⟨nb_ BK500.out⟩, ⟨ne_ HB.out⟩⟩
/-- THE ONE PURE STATEMENT of laws_FnTurnWalk: yours. -/
def laws_FnTurnWalk.Pure : Prop := ∀ (l0 : List Int), l0.length ≤ maxLen → l0.length * 1 ≤ 140737488351232 → (∀ x ∈ l0, (Lit.int .u8 x).wf = true) → ∃ k, laws_FnTurnWalk.f k l0 = some true
theorem laws_FnTurnWalk.walk (P : laws_FnTurnWalk.Pure) (a0 : Option Addr) (len0 cap0 : Nat) (z0 : List Int) (w : World) (w0 : (a0 = none ∧ len0 = 0 ∧ cap0 = 0 ∧ z0 = []) ∨ ∃ x, a0 = some x ∧ len0 ≤ cap0 ∧ cap0 ≤ maxLen ∧ z0.length = cap0 ∧ (∀ i, i < z0.length → w.cell? (x.add i) = some (.int .u8 (z0.getD i 0))) ∧ ∀ n ∈ z0, (Lit.int .u8 n).wf = true) (y0 : len0 * 1 ≤ 140737488351232) :
    Calls Try.prog 5 #[.slice a0 len0 cap0] w fun e w' => e = .returned (.bool true) ∧ Below w.heap.size w w' := by
  obtain ⟨l0, rfl, hr0, hm0, hw0, hc0⟩ := ReadsInt.ofRowC w0
  obtain ⟨k, h⟩ := P l0 hm0 y0 hw0
  refine (laws_FnTurnWalk.calls k _ _ l0 true w (Kd.C_of_reads (d := (0 : Int)) (h1 := fun _ => rfl) hr0) hc0 h).mono ?_
  rintro e w' ⟨rfl, hd⟩
  exact ⟨rfl, hd⟩

end Go.Proofs.Ytcfmejfmjjgoaaa.Print
