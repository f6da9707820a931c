-- Made by this session's own program (wip/patch_print.py, over the kit's print). Lean checks it.
import Derived.Test.YtpjmkghmjpbldaaPrint0
import Derived.Test.YtpjmkghmjpbldaaPrintF22
import Derived.Test.YtpjmkghmjpbldaaPrintF24
import Derived.Test.YtpjmkghmjpbldaaPrintF25
import Derived.Test.YtpjmkghmjpbldaaPrintF26
import Derived.Test.YtpjmkghmjpbldaaPrintF27
namespace Go.Proofs.Ytpjmkghmjpbldaa.Print
open Go.RowKit Go.Proofs.YtpjmkghmjpbldaaW.PrintWords Go.Proofs.YtpjmkghmjpbldaaW.PrintLast Go.Proofs.YtpjmkghmjpbldaaW.PrintMore Go.Proofs.YtpjmkghmjpbldaaX
attribute [local go_sem] max2_int min2_int max_two min_two max_three min_three max_four min_four   -- for this text's walks alone
set_option linter.unusedVariables false
set_option linter.unusedSimpArgs false

abbrev z4_0 : Array Bool := #[false, false, false, false, false, false, false, false, false, false]
abbrev z4_1 : Array Bool := #[true, false, false, false, false, false, false, false, false, false]
abbrev z4_2 : Array Bool := #[true, true, false, false, false, false, false, false, false, false]
abbrev z4_3 : Array Bool := #[true, true, true, false, false, false, false, false, false, false]
abbrev z4_4 : Array Bool := #[true, true, true, true, false, false, false, false, false, false]
abbrev z4_5 : Array Bool := #[true, true, true, true, true, false, false, false, false, false]
abbrev z4_6 : Array Bool := #[true, true, true, true, true, true, false, false, false, false]
abbrev z4_7 : Array Bool := #[true, true, true, true, true, true, true, false, false, false]
abbrev z4_8 : Array Bool := #[true, true, true, true, true, true, true, true, false, false]
abbrev z4_9 : Array Bool := #[true, true, true, true, true, true, true, true, true, false]
abbrev z4_10 : Array Bool := #[true, true, true, true, true, true, true, true, true, true]
abbrev z4_11 : Array Bool := #[false, false, false, false, false, false, false, false, false, false, false, false, false, false, false, false, false, false, false, false, false, false, false, false, false, false, false, false]
abbrev z4_12 : Array Bool := #[true, false, false, false, false, false, false, false, false, false, false, false, false, false, false, false, false, false, false, false, false, false, false, false, false, false, false, false]
abbrev z4_13 : Array Bool := #[true, false, true, false, false, false, false, false, false, false, false, false, false, false, false, false, false, false, false, false, false, false, false, false, false, false, false, false]
abbrev z4_14 : Array Bool := #[true, false, true, false, false, false, true, false, false, false, false, false, false, false, false, false, false, false, false, false, false, false, false, false, false, false, false, false]
abbrev z4_15 : Array Bool := #[true, false, true, false, false, false, true, false, true, false, false, false, false, false, false, false, false, false, false, false, false, false, false, false, false, false, false, false]
abbrev z4_16 : Array Bool := #[true, true, true, false, false, false, true, false, true, false, false, false, false, false, false, false, false, false, false, false, false, false, false, false, false, false, false, false]
abbrev z4_17 : Array Bool := #[true, true, true, true, false, false, true, false, true, false, false, false, false, false, false, false, false, false, false, false, false, false, false, false, false, false, false, false]
abbrev z4_18 : Array Bool := #[true, true, true, true, true, false, true, false, true, false, false, false, false, false, false, false, false, false, false, false, false, false, false, false, false, false, false, false]
abbrev z4_19 : Array Bool := #[true, true, true, true, true, true, true, false, true, false, false, false, false, false, false, false, false, false, false, false, false, false, false, false, false, false, false, false]
abbrev z4_20 : Array Bool := #[true, true, true, true, true, true, true, true, true, false, false, false, false, false, false, false, false, false, false, false, false, false, false, false, false, false, false, false]
abbrev z4_21 : Array Bool := #[true, true, true, true, true, true, true, true, true, true, false, false, false, false, false, false, false, false, false, false, false, false, false, false, false, false, false, false]
abbrev z4_22 : Array Bool := #[true, true, true, true, true, true, true, true, true, true, true, false, false, false, false, false, false, false, false, false, false, false, false, false, false, false, false, false]
abbrev z4_23 : Array Bool := #[true, true, true, true, true, true, true, true, true, true, true, true, false, false, false, false, false, false, false, false, false, false, false, false, false, false, false, false]
abbrev z4_24 : Array Bool := #[true, true, true, true, true, true, true, true, true, true, true, true, true, false, false, false, false, false, false, false, false, false, false, false, false, false, false, false]
abbrev z4_25 : Array Bool := #[true, true, true, true, true, true, true, true, true, true, true, true, true, true, false, false, false, false, false, false, false, false, false, false, false, false, false, false]
abbrev z4_26 : Array Bool := #[true, true, true, true, true, true, true, true, true, true, true, true, true, true, true, false, false, false, false, false, false, false, false, false, false, false, false, false]
abbrev z4_27 : Array Bool := #[true, true, true, true, true, true, true, true, true, true, true, true, true, true, true, false, true, false, false, false, false, false, false, false, false, false, false, false]
abbrev z4_28 : Array Bool := #[true, true, true, true, true, true, true, true, true, true, true, true, true, true, true, false, true, false, false, false, true, false, false, false, false, false, false, false]
abbrev z4_29 : Array Bool := #[true, true, true, true, true, true, true, true, true, true, true, true, true, true, true, false, true, false, false, false, true, false, true, false, false, false, false, false]
abbrev z4_30 : Array Bool := #[true, true, true, true, true, true, true, true, true, true, true, true, true, true, true, true, true, false, false, false, true, false, true, false, false, false, false, false]
abbrev z4_31 : Array Bool := #[true, true, true, true, true, true, true, true, true, true, true, true, true, true, true, true, true, true, false, false, true, false, true, false, false, false, false, false]
abbrev z4_32 : Array Bool := #[true, true, true, true, true, true, true, true, true, true, true, true, true, true, true, true, true, true, true, false, true, false, true, false, false, false, false, false]
abbrev z4_33 : Array Bool := #[true, true, true, true, true, true, true, true, true, true, true, true, true, true, true, true, true, true, true, true, true, false, true, false, false, false, false, false]
abbrev z4_34 : Array Bool := #[true, true, true, true, true, true, true, true, true, true, true, true, true, true, true, true, true, true, true, true, true, true, true, false, false, false, false, false]
abbrev z4_35 : Array Bool := #[true, true, true, true, true, true, true, true, true, true, true, true, true, true, true, true, true, true, true, true, true, true, true, true, false, false, false, false]
abbrev z4_36 : Array Bool := #[true, true, true, true, true, true, true, true, true, true, true, true, true, true, true, true, true, true, true, true, true, true, true, true, true, false, false, false]
abbrev z4_37 : Array Bool := #[true, true, true, true, true, true, true, true, true, true, true, true, true, true, true, true, true, true, true, true, true, true, true, true, true, true, false, false]
abbrev z4_38 : Array Bool := #[true, true, true, true, true, true, true, true, true, true, true, true, true, true, true, true, true, true, true, true, true, true, true, true, true, true, true, false]
abbrev z4_39 : Array Bool := #[true, true, true, true, true, true, true, true, true, true, true, true, true, true, true, true, true, true, true, true, true, true, true, true, true, true, true, true]
abbrev z4_40 : Array Bool := #[false, false, false, false, false, false, false, false, false]
abbrev z4_41 : Array Bool := #[true, false, false, false, false, false, false, false, false]
abbrev z4_42 : Array Bool := #[true, true, false, false, false, false, false, false, false]
abbrev z4_43 : Array Bool := #[true, true, true, false, false, false, false, false, false]
abbrev z4_44 : Array Bool := #[true, true, true, true, false, false, false, false, false]
abbrev z4_45 : Array Bool := #[true, true, true, true, true, true, false, false, false]
abbrev z4_46 : Array Bool := #[true, true, true, true, true, true, true, false, false]
abbrev z4_47 : Array Bool := #[true, true, true, true, true, true, true, true, false]
abbrev z4_48 : Array Bool := #[true, true, true, true, true, true, true, true, true]
abbrev bC4 := @blk_cell
abbrev rR4 := @Kd.R_reads'
/-! ### laws_FnNetBack: function 4 -/
mutual
def laws_FnNetBack.j0 : Nat → Bool → Int → List (S37) → Int → List (S37) → Option (Bool)
  | 0, _, _, _, _, _ => none
  | k + 1, x22, x279000, x279001, x284000, x284001 => if x22 = true then ((spec_NetBack.f k x279000 x279001).bind fun bt290 => ((laws_wkNet.f k x284000 x284001 bt290.1 bt290.2).bind fun t294 => (some t294))) else (laws_FnNetBack.l0 k 0 x279000 x279001 x284000 x284001)
def laws_FnNetBack.l0 : Nat → Int → Int → List (S37) → Int → List (S37) → Option (Bool)
  | 0, _, _, _, _, _ => none
  | k + 1, x5, x279000, x279001, x284000, x284001 => if x5 < (x279001.length : Int) then (if 0 ≤ x5 then (if x5 < (x284001.length : Int) then (if ((rd_T37 x284001 x5).f0) = ((rd_T37 x279001 x5).f1) then (if ((rd_T37 x284001 x5).f1) = ((rd_T37 x279001 x5).f0) then (laws_FnNetBack.l0 k (wrap64 (x5 + 1)) x279000 x279001 x284000 x284001) else (some false)) else (some false)) else (none)) else (none)) else ((impl_NetOk.f x284000 x284001).bind fun t299 => (if t299 = true then ((impl_NetBack.f k x284000 x284001).bind fun bt300 => ((laws_wkNet.f k bt300.1 bt300.2 x279000 x279001).bind fun t304 => (some t304))) else (some false)))
end
def laws_FnNetBack.f (k : Nat) (l0 : List Int) : Option (Bool) := if (l0.length : Int) > 1048576 then (some true) else ((spec_DrawNetBack.f k l0).bind fun bt274 => ((impl_NetBack.f k bt274.1 bt274.2).bind fun bt279 => ((spec_NetBack.f k bt274.1 bt274.2).bind fun bt284 => ((laws_wkNet.f k bt279.1 bt279.2 bt284.1 bt284.2).bind fun t288 => (if t288 = true then ((impl_NetOk.f bt274.1 bt274.2).bind fun t289 => (laws_FnNetBack.j0 k (!t289) bt274.1 bt274.2 bt279.1 bt279.2)) else (laws_FnNetBack.j0 k true bt274.1 bt274.2 bt279.1 bt279.2))))))
theorem laws_FnNetBack.mono_l : ∀ k, (∀ y0 y1 y2 y3 y4, LeO (laws_FnNetBack.j0 k y0 y1 y2 y3 y4) (laws_FnNetBack.j0 (k + 1) y0 y1 y2 y3 y4)) ∧ (∀ y0 y1 y2 y3 y4, LeO (laws_FnNetBack.l0 k y0 y1 y2 y3 y4) (laws_FnNetBack.l0 (k + 1) y0 y1 y2 y3 y4))
  | 0 => ⟨fun _ _ _ _ _ r h => by simp [laws_FnNetBack.j0] at h, fun _ _ _ _ _ r h => by simp [laws_FnNetBack.l0] at h⟩
  | k + 1 => by
    obtain ⟨ih0, ih1⟩ := laws_FnNetBack.mono_l k
    refine ⟨?_, ?_⟩
    · intro y0 y1 y2 y3 y4
      unfold laws_FnNetBack.j0
      repeat' first
      | (with_reducible exact ih0 _ _ _ _ _)
      | (with_reducible exact ih1 _ _ _ _ _)
      | (with_reducible exact impl_NetBack.mono _ _ _)
      | (with_reducible exact laws_wkNet.mono _ _ _ _ _)
      | (with_reducible exact spec_DrawNetBack.mono _ _)
      | (with_reducible exact spec_NetBack.mono _ _ _)
      | (with_reducible exact LeO.refl _)
      | (with_reducible exact LeO.none _)
      | (with_reducible refine LeO.ite ?_ ?_)
      | (with_reducible refine LeO.bind ?_ (fun _ => ?_))
      | exact ih0 _ _ _ _ _
      | exact ih1 _ _ _ _ _
      | exact impl_NetBack.mono _ _ _
      | exact laws_wkNet.mono _ _ _ _ _
      | exact spec_DrawNetBack.mono _ _
      | exact spec_NetBack.mono _ _ _
      | exact LeO.none _
      | refine LeO.ite ?_ ?_
      | refine LeO.bind ?_ (fun _ => ?_)
    · intro y0 y1 y2 y3 y4
      unfold laws_FnNetBack.l0
      repeat' first
      | (with_reducible exact ih0 _ _ _ _ _)
      | (with_reducible exact ih1 _ _ _ _ _)
      | (with_reducible exact impl_NetBack.mono _ _ _)
      | (with_reducible exact laws_wkNet.mono _ _ _ _ _)
      | (with_reducible exact spec_DrawNetBack.mono _ _)
      | (with_reducible exact spec_NetBack.mono _ _ _)
      | (with_reducible exact LeO.refl _)
      | (with_reducible exact LeO.none _)
      | (with_reducible refine LeO.ite ?_ ?_)
      | (with_reducible refine LeO.bind ?_ (fun _ => ?_))
      | exact ih0 _ _ _ _ _
      | exact ih1 _ _ _ _ _
      | exact impl_NetBack.mono _ _ _
      | exact laws_wkNet.mono _ _ _ _ _
      | exact spec_DrawNetBack.mono _ _
      | exact spec_NetBack.mono _ _ _
      | exact LeO.none _
      | refine LeO.ite ?_ ?_
      | refine LeO.bind ?_ (fun _ => ?_)
theorem laws_FnNetBack.mono : ∀ a0 k, LeO (laws_FnNetBack.f k a0) (laws_FnNetBack.f (k + 1) a0) := by
  intro a0 k
  obtain ⟨ih0, ih1⟩ := laws_FnNetBack.mono_l k
  unfold laws_FnNetBack.f
  repeat' first
      | (with_reducible exact ih0 _ _ _ _ _)
      | (with_reducible exact ih1 _ _ _ _ _)
      | (with_reducible exact impl_NetBack.mono _ _ _)
      | (with_reducible exact laws_wkNet.mono _ _ _ _ _)
      | (with_reducible exact spec_DrawNetBack.mono _ _)
      | (with_reducible exact spec_NetBack.mono _ _ _)
      | (with_reducible exact LeO.refl _)
      | (with_reducible exact LeO.none _)
      | (with_reducible refine LeO.ite ?_ ?_)
      | (with_reducible refine LeO.bind ?_ (fun _ => ?_))
      | exact ih0 _ _ _ _ _
      | exact ih1 _ _ _ _ _
      | exact impl_NetBack.mono _ _ _
      | exact laws_wkNet.mono _ _ _ _ _
      | exact spec_DrawNetBack.mono _ _
      | exact spec_NetBack.mono _ _ _
      | exact LeO.none _
      | refine LeO.ite ?_ ?_
      | refine LeO.bind ?_ (fun _ => ?_)
def laws_FnNetBack.T5 : Bool × List (List Nat × List Nat) := (true, [([], []), ([], []), ([1], [1]), ([0, 2, 2], [0, 2]), ([3], [3]), ([4, 3], [4]), ([5], [5]), ([6, 5, 5], [5, 6]), ([7, 5], [5, 7]), ([5, 8], [5, 8])])
def laws_FnNetBack.B5 : List Nat := [0, 0, 2, 7, 15, 31, 63, 127, 255, 511]
theorem laws_FnNetBack.tab5 : rtab .any (opsOf Try.f4 5) = laws_FnNetBack.T5 := by kernel_rfl
theorem laws_FnNetBack.bits5 : waitsOk laws_FnNetBack.T5.2 laws_FnNetBack.B5 = true := by kernel_rfl
def laws_FnNetBack.T10 : Bool × List (List Nat × List Nat) := (true, [([], []), ([0], [0]), ([], []), ([1, 2], [1, 2]), ([3], [3]), ([4], [4]), ([], []), ([6], [6]), ([], []), ([7, 8], [7, 8]), ([9], [9]), ([10], [10]), ([5, 11], [5, 11]), ([12], [12]), ([13], [13]), ([14, 13], [13, 14]), ([13], [13]), ([15, 16, 13], [13, 15, 16]), ([17, 13], [13, 17]), ([18, 13], [13, 18]), ([13], [13]), ([20, 13], [13, 20]), ([13], [13]), ([21, 22, 13], [13, 21, 22]), ([23, 13], [13, 23]), ([24, 13], [13, 24]), ([19, 25, 13], [13, 19, 25]), ([13, 26], [13, 26])])
def laws_FnNetBack.B10 : List Nat := [0, 1, 0, 7, 15, 31, 0, 64, 0, 448, 960, 1984, 4095, 8191, 16383, 32767, 16383, 131071, 262143, 524287, 16383, 1064959, 16383, 7356415, 15745023, 32522239, 67108863, 134217727]
theorem laws_FnNetBack.tab10 : rtab .any (opsOf Try.f4 10) = laws_FnNetBack.T10 := by kernel_rfl
theorem laws_FnNetBack.bits10 : waitsOk laws_FnNetBack.T10.2 laws_FnNetBack.B10 = true := by kernel_rfl
def laws_FnNetBack.T12 : Bool × List (List Nat × List Nat) := (true, [([], []), ([0], [0]), ([1, 1], [1]), ([2], [2]), ([3, 2, 2], [2, 3]), ([2], [2]), ([4, 5, 4, 2], [2, 4, 5]), ([2, 6], [2, 6]), ([7, 6, 0, 1, 2, 3, 4, 5, 6, 7], [7])])
def laws_FnNetBack.B12 : List Nat := [0, 1, 3, 7, 15, 7, 63, 127, 255]
theorem laws_FnNetBack.tab12 : rtab .any (opsOf Try.f4 12) = laws_FnNetBack.T12 := by kernel_rfl
theorem laws_FnNetBack.bits12 : waitsOk laws_FnNetBack.T12.2 laws_FnNetBack.B12 = true := by kernel_rfl
set_option maxHeartbeats 8000000 in
set_option maxRecDepth 100000 in
theorem laws_FnNetBack.calls (k : Nat) (A0 : Option Addr) (c0 : Nat) (l0 : List Int) (r : Bool) (w : World) (hr0 : Kd.C (Kd.int .u8) w A0 l0.length l0) (hc0 : l0.length ≤ c0) (h : laws_FnNetBack.f k l0 = some r) :
    Calls Try.prog 4 #[.slice A0 l0.length c0] w fun e w' => e = .returned (.bool r) ∧ Below w.heap.size w w' := by
  have hu29 := Try.underlying29
  have HR0 := Aside0.mk hr0
  have HC0 := Aside0.mk hc0
  clear hr0 hc0
  have HB := Aside0.mk (Below.refl w.heap.size w)
  have H : (if (l0.length : Int) > 1048576 then (some true) else ((spec_DrawNetBack.f k l0).bind fun bt274 => ((impl_NetBack.f k bt274.1 bt274.2).bind fun bt279 => ((spec_NetBack.f k bt274.1 bt274.2).bind fun bt284 => ((laws_wkNet.f k bt279.1 bt279.2 bt284.1 bt284.2).bind fun t288 => (if t288 = true then ((impl_NetOk.f bt274.1 bt274.2).bind fun t289 => (laws_FnNetBack.j0 k (!t289) bt274.1 bt274.2 bt279.1 bt279.2)) else (laws_FnNetBack.j0 k true bt274.1 bt274.2 bt279.1 bt279.2))))))) = some r := h
  clear h
  by_cases c2 : (l0.length : Int) > 1048576
  ·rw [if_pos c2] at H
   have c2b0 : decide (1048576 < (l0.length : Int)) = true := decide_eq_true c2
   have c2b1 : decide (1048576 < l0.length) = true := decide_eq_true (by omega)
   clear c2
   obtain rfl := Option.some.inj H
   go_enter Try.func4, Try.ntmps4
   go_wp2
   go_ret
   exact ⟨by first | rfl | (simp [errW_none, errW_some] <;> rfl) | (simp [*, errW_none, errW_some] <;> rfl), by repeat (first | (with_reducible first | exact HB.out | apply below_alloc | apply pw_below_drewN | apply below_drew1) | exact HB.out)⟩
  ·rw [if_neg c2] at H
   have c2b0 : decide (1048576 < (l0.length : Int)) = false := decide_eq_false c2
   have c2b1 : decide (1048576 < l0.length) = false := decide_eq_false (by omega)
   clear c2
   replace H := Option.bind_eq_some_iff.mp H
   obtain ⟨⟨t274, t275⟩, A30, H⟩ := H
   replace H : ((impl_NetBack.f k t274 t275).bind fun bt279 => ((spec_NetBack.f k t274 t275).bind fun bt284 => ((laws_wkNet.f k bt279.1 bt279.2 bt284.1 bt284.2).bind fun t288 => (if t288 = true then ((impl_NetOk.f t274 t275).bind fun t289 => (laws_FnNetBack.j0 k (!t289) t274 t275 bt279.1 bt279.2)) else (laws_FnNetBack.j0 k true t274 t275 bt279.1 bt279.2))))) = some r := H
   have A3 := Aside0.mk A30
   clear A30
   replace H := Option.bind_eq_some_iff.mp H
   obtain ⟨⟨t279, t280⟩, A40, H⟩ := H
   replace H : ((spec_NetBack.f k t274 t275).bind fun bt284 => ((laws_wkNet.f k t279 t280 bt284.1 bt284.2).bind fun t288 => (if t288 = true then ((impl_NetOk.f t274 t275).bind fun t289 => (laws_FnNetBack.j0 k (!t289) t274 t275 t279 t280)) else (laws_FnNetBack.j0 k true t274 t275 t279 t280)))) = some r := H
   have A4 := Aside0.mk A40
   clear A40
   have HC5 := Aside0.mk H
   clear H
   go_enter Try.func4, Try.ntmps4
   go_upto_region 5 with (first | ((with_reducible refine gate_callee (f := 24) rfl ?_); refine goesL_ (some 10) rfl rfl Try.func24 (by kernel_rfl) rfl #[.slice A0 l0.length c0] rfl na_ ?_; (with_reducible refine (spec_DrawNetBack.calls k _ _ l0 t274 t275 _ ?side1 ?side2 A3.out).mono ?_); (case side1 => repeat (first | exact HR0.out | (with_reducible refine Kd.C_alloc ?_ _) | (with_reducible refine Kd.C_drewN ?_ _) | (with_reducible refine Kd.C_drew ?_))); (case side2 => exact HC0.out); rintro e w6 ⟨v276, rfl, ho0, hb⟩; refine ⟨_, rfl, ?_⟩; have n0_ := Aside0.mk (Kd.R_lower ho0 (below_size (ne_ HB.out))); have n1_ := Aside0.mk (below_step (ne_ HB.out) hb); clear HB; have HO277 := n0_; have HB := n1_; clear n0_ n1_; (try clear hb); (try clear hb2); (try clear hk); (try clear hi); (try clear ho0)) | ((with_reducible refine gate_dst (N := 3) rfl ?_); refine box_event ?hg (N := 3) ?hd (cs := #[.int .i64 0, .slice none 0 0]) (t := 29) ?hr ?_; (case hd => rfl); (case hg => rfl); (case hr => first | (go_simp; done) | (go_simp; rfl)); intro gb278 hg w7 hbox hb; have n0_ := Aside0.mk (Kd.R_below (nr_ HO277.out) hb); have n1_ := Aside0.mk (below_step (ne_ HB.out) hb); have n2_ := Aside0.mk (hbox); have n3_ := Aside0.mk ((by rw [hg]; exact (below_size (ne_ HB.out)) : w.heap.size ≤ gb278)); have n4_ := Aside0.mk ((by rw [hg]; exact (below_size (ne_ HB.out)) : w.heap.size ≤ gb278)); clear HO277; clear HB; have HO277 := n0_; have HB := n1_; have BK278 := n2_; have GW278 := n3_; have GE278 := n4_; clear n0_ n1_ n2_ n3_ n4_; clear hb hbox hg; have hcz8_0 : w7.cell? ⟨gb278, 0, none⟩ = some (.int .i64 0) := (bC4 BK278.out 0).trans rfl; have hcz8_1 : w7.cell? ⟨gb278, 1, none⟩ = some (.slice none 0 0) := (bC4 BK278.out 1).trans rfl; have hfz8_0 := blk_frozen BK278.out 0; have hfz8_1 := blk_frozen BK278.out 1; obtain ⟨Ao9, co9, eo9⟩ := Kd.R_slice HO277.out; subst eo9) | ((with_reducible refine gate_callee (f := 25) rfl ?_); refine goesL_ (some 12) rfl rfl Try.func25 (by kernel_rfl) rfl #[.agg #[.int .i64 t274, .slice Ao9 t275.length co9]] rfl na_ ?_; (with_reducible refine (impl_NetBack.calls k t274 _ _ t275 t279 t280 _ ?side1 ?side2 A4.out).mono ?_); (case side1 => refine (rR4 (e := 37) (base := w.heap.size) (ok := fun k_ => True) (n := t275.length) (c := co9) ?_).2.2; exact (by (with_reducible repeat (first | apply Kd.R_alloc | apply Kd.R_drewN | apply Kd.R_drew)); exact (Kd.R_mono (Kd.R_far (p := ⟨gb278, 1, none⟩) (Kd.R_far (p := ⟨gb278, 0, none⟩) (Kd.R_types HO277.out BK278.out (by decide)) (fun _ hk => hk.2) (.int .i64 t274)) (fun _ hk => hk.2) (.slice Ao9 t275.length co9)) (fun _ h_ => h_.1)))); (case side2 => exact (rR4 HO277.out).2.1); rintro e w10 ⟨v281, rfl, ho0, hb⟩; refine ⟨_, rfl, ?_⟩; have n0_ := Aside0.mk (Kd.R_elder' (by (with_reducible repeat (first | apply Kd.R_alloc | apply Kd.R_drewN | apply Kd.R_drew)); exact (Kd.R_mono (Kd.R_far (p := ⟨gb278, 1, none⟩) (Kd.R_far (p := ⟨gb278, 0, none⟩) (Kd.R_types HO277.out BK278.out (by decide)) (fun _ hk => hk.2) (.int .i64 t274)) (fun _ hk => hk.2) (.slice Ao9 t275.length co9)) (fun _ h_ => h_.1))) (Kd.R_base ho0) hb); have n1_ := Aside0.mk (Kd.R_lower (Kd.R_new' ho0 (Kd.R_lt (by (with_reducible repeat (first | apply Kd.R_alloc | apply Kd.R_drewN | apply Kd.R_drew)); exact (Kd.R_mono (Kd.R_far (p := ⟨gb278, 1, none⟩) (Kd.R_far (p := ⟨gb278, 0, none⟩) (Kd.R_types HO277.out BK278.out (by decide)) (fun _ hk => hk.2) (.int .i64 t274)) (fun _ hk => hk.2) (.slice Ao9 t275.length co9)) (fun _ h_ => h_.1))))) (below_size (ne_ HB.out))); have n2_ := Aside0.mk (blk_below (g := gb278) (o := .cells #[.int .i64 t274, .slice Ao9 t275.length co9] 29 (0, 0)) (by (with_reducible repeat (first | refine blk_drewN ?_ _ | refine blk_drew ?_ | refine blk_alloc ?_ _)); refine blk_put (cs := #[.int .i64 t274, .slice none 0 0]) ?_ 1 _ rfl; (with_reducible repeat (first | refine blk_drewN ?_ _ | refine blk_drew ?_ | refine blk_alloc ?_ _)); refine blk_put (cs := #[.int .i64 0, .slice none 0 0]) ?_ 0 _ rfl; (with_reducible repeat (first | refine blk_drewN ?_ _ | refine blk_drew ?_ | refine blk_alloc ?_ _)); exact BK278.out) hb); have n3_ := Aside0.mk (below_step (ne_ HB.out) hb); clear HO277; clear BK278; clear HB; have HO277 := n0_; have HO282 := n1_; have BK278 := n2_; have HB := n3_; clear n0_ n1_ n2_ n3_; (try clear hb); (try clear hb2); (try clear hk); (try clear hi); (try clear ho0)) | ((with_reducible refine gate_dst (N := 4) rfl ?_); refine box_event ?hg (N := 4) ?hd (cs := #[.int .i64 0, .slice none 0 0]) (t := 29) ?hr ?_; (case hd => rfl); (case hg => rfl); (case hr => first | (go_simp; done) | (go_simp; rfl)); intro gb283 hg w11 hbox hb; have n0_ := Aside0.mk (Kd.R_below (nr_ HO277.out) hb); have n1_ := Aside0.mk (Kd.R_below (nr_ HO282.out) hb); have n2_ := Aside0.mk (blk_below (g := gb278) (o := .cells #[.int .i64 t274, .slice Ao9 t275.length co9] 29 (0, 0)) (nb_ BK278.out) hb); have n3_ := Aside0.mk (below_step (ne_ HB.out) hb); have n4_ := Aside0.mk (hbox); have n5_ := Aside0.mk ((by rw [hg]; exact (below_size (ne_ HB.out)) : w.heap.size ≤ gb283)); have n6_ := Aside0.mk ((by rw [hg]; exact (below_size (ne_ HB.out)) : w.heap.size ≤ gb283)); have n7_ := Aside0.mk ((by rw [hg]; exact Nat.ne_of_lt (blk_lt (g := gb278) (o := .cells #[.int .i64 t274, .slice Ao9 t275.length co9] 29 (0, 0)) (nb_ BK278.out)) : gb278 ≠ gb283)); have n8_ := Aside0.mk ((by rw [hg]; exact Nat.ne_of_gt (blk_lt (g := gb278) (o := .cells #[.int .i64 t274, .slice Ao9 t275.length co9] 29 (0, 0)) (nb_ BK278.out)) : gb283 ≠ gb278)); clear HO277; clear HO282; clear BK278; clear HB; have HO277 := n0_; have HO282 := n1_; have BK278 := n2_; have HB := n3_; have BK283 := n4_; have GW283 := n5_; have GE283 := n6_; have NB278_283 := n7_; have NB283_278 := n8_; clear n0_ n1_ n2_ n3_ n4_ n5_ n6_ n7_ n8_; clear hb hbox hg; have hnb12 := NB283_278.out; have hnc12 := NB278_283.out; have hcz13_0 : w11.cell? ⟨gb283, 0, none⟩ = some (.int .i64 0) := (bC4 BK283.out 0).trans rfl; have hcz13_1 : w11.cell? ⟨gb283, 1, none⟩ = some (.slice none 0 0) := (bC4 BK283.out 1).trans rfl; have hfz13_0 := blk_frozen BK283.out 0; have hfz13_1 := blk_frozen BK283.out 1; obtain ⟨Ao14, co14, eo14⟩ := Kd.R_slice HO282.out; subst eo14))
   (try simp only [Act.put, List.setIfInBounds_toArray, List.set_cons_zero, List.set_cons_succ])
   go_cut [22] (fun v22 wc => ∃ (kq : Nat) (x22_4 : Bool), v22 = .bool x22_4 ∧ Aside0 (laws_FnNetBack.j0 kq x22_4 t274 t275 t279 t280 = some r) ∧ Aside0 (kq ≤ k) ∧ Aside0 (Kd.R k37 37 wc w.heap.size (fun k_ => some k_ ≠ ((.slice Ao14 t280.length co14) : Value).ownBlock) (.slice Ao9 t275.length co9) t275) ∧ Aside0 (Kd.R k37 37 wc w.heap.size (fun k_ => some k_ ≠ ((.slice Ao9 t275.length co9) : Value).ownBlock) (.slice Ao14 t280.length co14) t280) ∧ Aside0 (wc.heap[gb278]? = some (.cells #[.int .i64 t274, (.slice Ao9 t275.length co9)] 29 (0, 0))) ∧ Aside0 (wc.heap[gb283]? = some (.cells #[.int .i64 t279, (.slice Ao14 t280.length co14)] 29 (0, 0))) ∧ Aside0 (Below w.heap.size w wc))
   case first =>
    have H := HC5.out
    clear HC5
    replace H := Option.bind_eq_some_iff.mp H
    obtain ⟨⟨t284, t285⟩, A150, H⟩ := H
    replace H : ((laws_wkNet.f k t279 t280 t284 t285).bind fun t288 => (if t288 = true then ((impl_NetOk.f t274 t275).bind fun t289 => (laws_FnNetBack.j0 k (!t289) t274 t275 t279 t280)) else (laws_FnNetBack.j0 k true t274 t275 t279 t280))) = some r := H
    have A15 := Aside0.mk A150
    clear A150
    replace H := Option.bind_eq_some_iff.mp H
    obtain ⟨t288, A160, H⟩ := H
    replace H : (if t288 = true then ((impl_NetOk.f t274 t275).bind fun t289 => (laws_FnNetBack.j0 k (!t289) t274 t275 t279 t280)) else (laws_FnNetBack.j0 k true t274 t275 t279 t280)) = some r := H
    have A16 := Aside0.mk A160
    clear A160
    by_cases c17 : t288 = true
    ·subst c17
     have H1 : ((impl_NetOk.f t274 t275).bind fun t289 => (laws_FnNetBack.j0 k (!t289) t274 t275 t279 t280)) = some r := by rw [if_pos rfl] at H; exact H
     clear H
     have H := H1
     clear H1
     replace H := Option.bind_eq_some_iff.mp H
     obtain ⟨t289, A180, H⟩ := H
     replace H : (laws_FnNetBack.j0 k (!t289) t274 t275 t279 t280) = some r := H
     have A18 := Aside0.mk A180
     clear A180
     have H' := Aside0.mk H
     clear H
     try go_wp2
     have n0_ : Aside0 (Kd.R k37 37 ((w11.setCell ⟨gb283, 0, none⟩ (.int .i64 t279)).setCell ⟨gb283, 1, none⟩ (.slice Ao14 t280.length co14)) w.heap.size (fun k_ => some k_ ≠ (.slice Ao14 t280.length co14 : Value).ownBlock) (.slice Ao9 t275.length co9) t275) := ⟨by (with_reducible repeat (first | apply Kd.R_alloc | apply Kd.R_drewN | apply Kd.R_drew)); exact Kd.R_mono (Kd.R_far (p := ⟨gb283, 1, none⟩) (Kd.R_far (p := ⟨gb283, 0, none⟩) (Kd.R_types HO277.out BK283.out (by decide)) (fun _ hk => hk.2) (.int .i64 t279)) (fun _ hk => hk.2) (.slice Ao14 t280.length co14)) (fun _ hk => by first | exact hk.1.2 | trivial | simp_all)⟩
     have n1_ : Aside0 (Kd.R k37 37 ((w11.setCell ⟨gb283, 0, none⟩ (.int .i64 t279)).setCell ⟨gb283, 1, none⟩ (.slice Ao14 t280.length co14)) w.heap.size (fun k_ => some k_ ≠ (.slice Ao9 t275.length co9 : Value).ownBlock) (.slice Ao14 t280.length co14) t280) := ⟨by (with_reducible repeat (first | apply Kd.R_alloc | apply Kd.R_drewN | apply Kd.R_drew)); exact Kd.R_mono (Kd.R_far (p := ⟨gb283, 1, none⟩) (Kd.R_far (p := ⟨gb283, 0, none⟩) (Kd.R_types HO282.out BK283.out (by decide)) (fun _ hk => hk.2) (.int .i64 t279)) (fun _ hk => hk.2) (.slice Ao14 t280.length co14)) (fun _ hk => by first | exact hk.1.2 | trivial | simp_all)⟩
     have n2_ : Aside0 (((w11.setCell ⟨gb283, 0, none⟩ (.int .i64 t279)).setCell ⟨gb283, 1, none⟩ (.slice Ao14 t280.length co14)).heap[gb278]? = some (.cells #[.int .i64 t274, .slice Ao9 t275.length co9] 29 (0, 0))) := ⟨by (with_reducible repeat (first | refine blk_drewN ?_ _ | refine blk_drew ?_ | refine blk_alloc ?_ _)); refine blk_far ?_ NB278_283.out _; (with_reducible repeat (first | refine blk_drewN ?_ _ | refine blk_drew ?_ | refine blk_alloc ?_ _)); refine blk_far ?_ NB278_283.out _; (with_reducible repeat (first | refine blk_drewN ?_ _ | refine blk_drew ?_ | refine blk_alloc ?_ _)); exact BK278.out⟩
     have n3_ : Aside0 (((w11.setCell ⟨gb283, 0, none⟩ (.int .i64 t279)).setCell ⟨gb283, 1, none⟩ (.slice Ao14 t280.length co14)).heap[gb283]? = some (.cells #[.int .i64 t279, .slice Ao14 t280.length co14] 29 (0, 0))) := ⟨by (with_reducible repeat (first | refine blk_drewN ?_ _ | refine blk_drew ?_ | refine blk_alloc ?_ _)); refine blk_put (cs := #[.int .i64 t279, .slice none 0 0]) ?_ 1 _ rfl; (with_reducible repeat (first | refine blk_drewN ?_ _ | refine blk_drew ?_ | refine blk_alloc ?_ _)); refine blk_put (cs := #[.int .i64 0, .slice none 0 0]) ?_ 0 _ rfl; (with_reducible repeat (first | refine blk_drewN ?_ _ | refine blk_drew ?_ | refine blk_alloc ?_ _)); exact BK283.out⟩
     have n4_ : Aside0 (Below w.heap.size w ((w11.setCell ⟨gb283, 0, none⟩ (.int .i64 t279)).setCell ⟨gb283, 1, none⟩ (.slice Ao14 t280.length co14))) := ⟨by repeat (first | (with_reducible first | exact HB.out | apply below_alloc | apply pw_below_drewN | apply below_drew1 | refine below_set ?_ GE278.out | refine below_set ?_ GE283.out) | exact HB.out)⟩
     (try clear HO277)
     (try clear HO282)
     (try clear BK278)
     (try clear BK283)
     (try clear HB)
     generalize ((w11.setCell ⟨gb283, 0, none⟩ (.int .i64 t279)).setCell ⟨gb283, 1, none⟩ (.slice Ao14 t280.length co14)) = w19 at n0_ n1_ n2_ n3_ n4_ ⊢
     have HO277 := n0_
     have HO282 := n1_
     have BK278 := n2_
     have BK283 := n3_
     have HB := n4_
     clear n0_ n1_ n2_ n3_ n4_
     have n0_ := Aside0.mk (Kd.R_drew HO277.out)
     have n1_ := Aside0.mk (Kd.R_drew HO282.out)
     have n2_ := Aside0.mk (blk_drew BK278.out)
     have n3_ := Aside0.mk (blk_drew BK283.out)
     have n4_ := Aside0.mk (below_drew1 HB.out)
     clear HO277
     clear HO282
     clear BK278
     clear BK283
     clear HB
     have HO277 := n0_
     have HO282 := n1_
     have BK278 := n2_
     have BK283 := n3_
     have HB := n4_
     clear n0_ n1_ n2_ n3_ n4_
     refine start_ (n := 10) (S := fun w' => w'.cell? ⟨gb283, 0, none⟩ = some (.int .i64 t279) ∧ w'.cell? ⟨gb283, 1, none⟩ = some (.slice Ao14 t280.length co14) ∧ w'.cell? ⟨gb278, 0, none⟩ = some (.int .i64 t274) ∧ w'.cell? ⟨gb278, 1, none⟩ = some (.slice Ao9 t275.length co9)) (ds := []) z4_0 (by kernel_rfl) rfl rfl ⟨(bC4 BK283.out 0).trans rfl, (bC4 BK283.out 1).trans rfl, (bC4 BK278.out 0).trans rfl, (bC4 BK278.out 1).trans rfl⟩ (fun hHeld => ?_); refine with_tabW laws_FnNetBack.tab5 laws_FnNetBack.bits5 (fun HT_ HW_ => ?_)
     generalize w19.drew = w20 at HO277 HO282 BK278 BK283 HB hHeld ⊢
     refine tk_ 0 13 z4_1 HT_.out HW_.out hHeld ?_
     refine tk_ 1 14 z4_2 HT_.out HW_.out hHeld ?_
     refine one_ (i := 2) (N := some 15) z4_3 rfl rfl (one_of HT_.out (by kernel_rfl)) (by decide) (fun K hK => ?_)
     refine goes_ Try.func27 (by kernel_rfl) rfl #[.agg #[.int .i64 t274, .slice Ao9 t275.length co9]] (by rfl) rfl rfl na_ ?_
     with_reducible refine (spec_NetBack.calls k t274 _ _ t275 t284 t285 _ ?side1 ?side2 A15.out).mono ?_
     (case side1 => exact nc_ (rR4 HO277.out).2.2)
     (case side2 => exact (rR4 HO277.out).2.1)
     rintro e w21 ⟨v286, rfl, ho0, hb⟩
     refine ⟨_, rfl, ?_⟩
     have n0_ := Aside0.mk (Kd.R_elder' (nr_ HO277.out) (Kd.R_base ho0) hb)
     have n1_ := Aside0.mk (Kd.R_elder' (nr_ HO282.out) (Kd.R_base ho0) hb)
     have n2_ := Aside0.mk (Kd.R_lower (Kd.R_new' (Kd.R_new' ho0 (Kd.R_lt (nr_ HO277.out))) (Kd.R_lt (nr_ HO282.out))) (below_size (ne_ HB.out)))
     have n3_ := Aside0.mk (blk_below (g := gb278) (o := .cells #[.int .i64 t274, .slice Ao9 t275.length co9] 29 (0, 0)) (nb_ BK278.out) hb)
     have n4_ := Aside0.mk (blk_below (g := gb283) (o := .cells #[.int .i64 t279, .slice Ao14 t280.length co14] 29 (0, 0)) (nb_ BK283.out) hb)
     have n5_ := Aside0.mk (below_step (ne_ HB.out) hb)
     clear HO277
     clear HO282
     clear BK278
     clear BK283
     clear HB
     have HO277 := n0_
     have HO282 := n1_
     have HO287 := n2_
     have BK278 := n3_
     have BK283 := n4_
     have HB := n5_
     clear n0_ n1_ n2_ n3_ n4_ n5_
     (try clear hb)
     (try clear hb2)
     (try clear hk)
     (try clear hi)
     (try clear ho0)
     obtain ⟨Ao22, co22, eo22⟩ := Kd.R_slice HO287.out
     (first | subst eo22 | (injection eo22 with f1_ f2_ f3_; have f4_ := f1_.symm; have f5_ := f3_.symm; clear f1_ f2_ f3_; subst f4_; subst f5_))
     refine hK.out _ _ ⟨(bC4 BK283.out 0).trans rfl, (bC4 BK283.out 1).trans rfl, (bC4 BK278.out 0).trans rfl, (bC4 BK278.out 1).trans rfl⟩ (fun hHeld => ?_)
     clear hK K
     refine norm_ (a' := ?_) ?_ ?_
     rotate_left
     ·show Act.put _ (some 15) _ = _
      simp only [Act.put, List.setIfInBounds_toArray, List.set_cons_zero, List.set_cons_succ, i64_w, i32_w]
      rfl
     refine one_ (i := 3) (N := some 16) z4_4 rfl rfl (one_of HT_.out (by kernel_rfl)) (by decide) (fun K hK => ?_)
     refine goes_ Try.func26 (by kernel_rfl) rfl #[.agg #[.int .i64 t279, .slice Ao14 t280.length co14], .agg #[.int .i64 t284, .slice Ao22 t285.length co22]] (by rfl) rfl rfl na_ ?_
     with_reducible refine (laws_wkNet.calls k t279 _ _ t280 t284 _ _ t285 true _ ?side1 ?side2 ?side3 ?side4 A16.out).mono ?_
     (case side1 => exact nc_ (rR4 HO282.out).2.2)
     (case side2 => exact (rR4 HO282.out).2.1)
     (case side3 => exact nc_ (rR4 HO287.out).2.2)
     (case side4 => exact (rR4 HO287.out).2.1)
     rintro e w23 ⟨rfl, hb⟩
     refine ⟨_, rfl, ?_⟩
     have n0_ := Aside0.mk (Kd.R_below (nr_ HO277.out) hb)
     have n1_ := Aside0.mk (Kd.R_below (nr_ HO282.out) hb)
     have n2_ := Aside0.mk (Kd.R_below (nr_ HO287.out) hb)
     have n3_ := Aside0.mk (blk_below (g := gb278) (o := .cells #[.int .i64 t274, .slice Ao9 t275.length co9] 29 (0, 0)) (nb_ BK278.out) hb)
     have n4_ := Aside0.mk (blk_below (g := gb283) (o := .cells #[.int .i64 t279, .slice Ao14 t280.length co14] 29 (0, 0)) (nb_ BK283.out) hb)
     have n5_ := Aside0.mk (below_step (ne_ HB.out) hb)
     clear HO277
     clear HO282
     clear HO287
     clear BK278
     clear BK283
     clear HB
     have HO277 := n0_
     have HO282 := n1_
     have HO287 := n2_
     have BK278 := n3_
     have BK283 := n4_
     have HB := n5_
     clear n0_ n1_ n2_ n3_ n4_ n5_
     (try clear hb)
     (try clear hb2)
     (try clear hk)
     (try clear hi)
     refine hK.out _ _ ⟨(bC4 BK283.out 0).trans rfl, (bC4 BK283.out 1).trans rfl, (bC4 BK278.out 0).trans rfl, (bC4 BK278.out 1).trans rfl⟩ (fun hHeld => ?_)
     clear hK K
     refine norm_ (a' := ?_) ?_ ?_
     rotate_left
     ·show Act.put _ (some 16) _ = _
      simp only [Act.put, List.setIfInBounds_toArray, List.set_cons_zero, List.set_cons_succ, i64_w, i32_w]
      rfl
     refine pu_ 4 17 z4_5 HT_.out ?_
     refine pu_ 5 18 z4_6 HT_.out ?_
     refine tk_ 6 19 z4_7 HT_.out HW_.out hHeld ?_
     refine one_ (i := 7) (N := some 20) z4_8 rfl rfl (one_of HT_.out (by kernel_rfl)) (by decide) (fun K hK => ?_)
     refine goes_ Try.func22 (by kernel_rfl) rfl #[.agg #[.int .i64 t274, .slice Ao9 t275.length co9]] (by rfl) rfl rfl na_ ?_
     with_reducible refine (impl_NetOk.calls t274 _ _ t275 t289 _ ?side1 ?side2 A18.out).mono ?_
     (case side1 => exact nc_ (rR4 HO277.out).2.2)
     (case side2 => exact (rR4 HO277.out).2.1)
     rintro e w24 ⟨rfl, hb⟩
     refine ⟨_, rfl, ?_⟩
     have n0_ := Aside0.mk (Kd.R_below (nr_ HO277.out) hb)
     have n1_ := Aside0.mk (Kd.R_below (nr_ HO282.out) hb)
     have n2_ := Aside0.mk (Kd.R_below (nr_ HO287.out) hb)
     have n3_ := Aside0.mk (blk_below (g := gb278) (o := .cells #[.int .i64 t274, .slice Ao9 t275.length co9] 29 (0, 0)) (nb_ BK278.out) hb)
     have n4_ := Aside0.mk (blk_below (g := gb283) (o := .cells #[.int .i64 t279, .slice Ao14 t280.length co14] 29 (0, 0)) (nb_ BK283.out) hb)
     have n5_ := Aside0.mk (below_step (ne_ HB.out) hb)
     clear HO277
     clear HO282
     clear HO287
     clear BK278
     clear BK283
     clear HB
     have HO277 := n0_
     have HO282 := n1_
     have HO287 := n2_
     have BK278 := n3_
     have BK283 := n4_
     have HB := n5_
     clear n0_ n1_ n2_ n3_ n4_ n5_
     (try clear hb)
     (try clear hb2)
     (try clear hk)
     (try clear hi)
     refine hK.out _ _ ⟨(bC4 BK283.out 0).trans rfl, (bC4 BK283.out 1).trans rfl, (bC4 BK278.out 0).trans rfl, (bC4 BK278.out 1).trans rfl⟩ (fun hHeld => ?_)
     clear hK K
     refine norm_ (a' := ?_) ?_ ?_
     rotate_left
     ·show Act.put _ (some 20) _ = _
      simp only [Act.put, List.setIfInBounds_toArray, List.set_cons_zero, List.set_cons_succ, i64_w, i32_w]
      rfl
     refine pu_ 8 21 z4_9 HT_.out ?_
     refine pu_ 9 22 z4_10 HT_.out ?_
     refine done_ (done_of HT_.out (by kernel_rfl)) ?_
     try go_wp2
     go_meet
     case rel => exact ⟨_, (!t289), ns_, H', ⟨by first | omega | exact Nat.le_refl _⟩, ⟨by (with_reducible repeat (first | apply Kd.R_alloc | apply Kd.R_drewN | apply Kd.R_drew)); exact Kd.R_mono HO277.out (fun _ hk => hk.1)⟩, ⟨by (with_reducible repeat (first | apply Kd.R_alloc | apply Kd.R_drewN | apply Kd.R_drew)); exact Kd.R_mono HO282.out (fun _ hk => hk.1)⟩, ⟨by (with_reducible repeat (first | refine blk_drewN ?_ _ | refine blk_drew ?_ | refine blk_alloc ?_ _)); exact BK278.out⟩, ⟨by (with_reducible repeat (first | refine blk_drewN ?_ _ | refine blk_drew ?_ | refine blk_alloc ?_ _)); exact BK283.out⟩, ⟨by repeat (first | (with_reducible first | exact HB.out | apply below_alloc | apply pw_below_drewN | apply below_drew1 | refine below_set ?_ GE278.out | refine below_set ?_ GE283.out) | exact HB.out)⟩⟩
    ·replace c17 := Bool.eq_false_iff.mpr c17
     subst c17
     have H1 : (laws_FnNetBack.j0 k true t274 t275 t279 t280) = some r := by rw [if_neg (show ¬ (false = true) by decide)] at H; exact H
     clear H
     have H := H1
     clear H1
     have H' := Aside0.mk H
     clear H
     try go_wp2
     have n0_ : Aside0 (Kd.R k37 37 ((w11.setCell ⟨gb283, 0, none⟩ (.int .i64 t279)).setCell ⟨gb283, 1, none⟩ (.slice Ao14 t280.length co14)) w.heap.size (fun k_ => some k_ ≠ (.slice Ao14 t280.length co14 : Value).ownBlock) (.slice Ao9 t275.length co9) t275) := ⟨by (with_reducible repeat (first | apply Kd.R_alloc | apply Kd.R_drewN | apply Kd.R_drew)); exact Kd.R_mono (Kd.R_far (p := ⟨gb283, 1, none⟩) (Kd.R_far (p := ⟨gb283, 0, none⟩) (Kd.R_types HO277.out BK283.out (by decide)) (fun _ hk => hk.2) (.int .i64 t279)) (fun _ hk => hk.2) (.slice Ao14 t280.length co14)) (fun _ hk => by first | exact hk.1.2 | trivial | simp_all)⟩
     have n1_ : Aside0 (Kd.R k37 37 ((w11.setCell ⟨gb283, 0, none⟩ (.int .i64 t279)).setCell ⟨gb283, 1, none⟩ (.slice Ao14 t280.length co14)) w.heap.size (fun k_ => some k_ ≠ (.slice Ao9 t275.length co9 : Value).ownBlock) (.slice Ao14 t280.length co14) t280) := ⟨by (with_reducible repeat (first | apply Kd.R_alloc | apply Kd.R_drewN | apply Kd.R_drew)); exact Kd.R_mono (Kd.R_far (p := ⟨gb283, 1, none⟩) (Kd.R_far (p := ⟨gb283, 0, none⟩) (Kd.R_types HO282.out BK283.out (by decide)) (fun _ hk => hk.2) (.int .i64 t279)) (fun _ hk => hk.2) (.slice Ao14 t280.length co14)) (fun _ hk => by first | exact hk.1.2 | trivial | simp_all)⟩
     have n2_ : Aside0 (((w11.setCell ⟨gb283, 0, none⟩ (.int .i64 t279)).setCell ⟨gb283, 1, none⟩ (.slice Ao14 t280.length co14)).heap[gb278]? = some (.cells #[.int .i64 t274, .slice Ao9 t275.length co9] 29 (0, 0))) := ⟨by (with_reducible repeat (first | refine blk_drewN ?_ _ | refine blk_drew ?_ | refine blk_alloc ?_ _)); refine blk_far ?_ NB278_283.out _; (with_reducible repeat (first | refine blk_drewN ?_ _ | refine blk_drew ?_ | refine blk_alloc ?_ _)); refine blk_far ?_ NB278_283.out _; (with_reducible repeat (first | refine blk_drewN ?_ _ | refine blk_drew ?_ | refine blk_alloc ?_ _)); exact BK278.out⟩
     have n3_ : Aside0 (((w11.setCell ⟨gb283, 0, none⟩ (.int .i64 t279)).setCell ⟨gb283, 1, none⟩ (.slice Ao14 t280.length co14)).heap[gb283]? = some (.cells #[.int .i64 t279, .slice Ao14 t280.length co14] 29 (0, 0))) := ⟨by (with_reducible repeat (first | refine blk_drewN ?_ _ | refine blk_drew ?_ | refine blk_alloc ?_ _)); refine blk_put (cs := #[.int .i64 t279, .slice none 0 0]) ?_ 1 _ rfl; (with_reducible repeat (first | refine blk_drewN ?_ _ | refine blk_drew ?_ | refine blk_alloc ?_ _)); refine blk_put (cs := #[.int .i64 0, .slice none 0 0]) ?_ 0 _ rfl; (with_reducible repeat (first | refine blk_drewN ?_ _ | refine blk_drew ?_ | refine blk_alloc ?_ _)); exact BK283.out⟩
     have n4_ : Aside0 (Below w.heap.size w ((w11.setCell ⟨gb283, 0, none⟩ (.int .i64 t279)).setCell ⟨gb283, 1, none⟩ (.slice Ao14 t280.length co14))) := ⟨by repeat (first | (with_reducible first | exact HB.out | apply below_alloc | apply pw_below_drewN | apply below_drew1 | refine below_set ?_ GE278.out | refine below_set ?_ GE283.out) | exact HB.out)⟩
     (try clear HO277)
     (try clear HO282)
     (try clear BK278)
     (try clear BK283)
     (try clear HB)
     generalize ((w11.setCell ⟨gb283, 0, none⟩ (.int .i64 t279)).setCell ⟨gb283, 1, none⟩ (.slice Ao14 t280.length co14)) = w25 at n0_ n1_ n2_ n3_ n4_ ⊢
     have HO277 := n0_
     have HO282 := n1_
     have BK278 := n2_
     have BK283 := n3_
     have HB := n4_
     clear n0_ n1_ n2_ n3_ n4_
     have n0_ := Aside0.mk (Kd.R_drew HO277.out)
     have n1_ := Aside0.mk (Kd.R_drew HO282.out)
     have n2_ := Aside0.mk (blk_drew BK278.out)
     have n3_ := Aside0.mk (blk_drew BK283.out)
     have n4_ := Aside0.mk (below_drew1 HB.out)
     clear HO277
     clear HO282
     clear BK278
     clear BK283
     clear HB
     have HO277 := n0_
     have HO282 := n1_
     have BK278 := n2_
     have BK283 := n3_
     have HB := n4_
     clear n0_ n1_ n2_ n3_ n4_
     refine start_ (n := 10) (S := fun w' => w'.cell? ⟨gb283, 0, none⟩ = some (.int .i64 t279) ∧ w'.cell? ⟨gb283, 1, none⟩ = some (.slice Ao14 t280.length co14) ∧ w'.cell? ⟨gb278, 0, none⟩ = some (.int .i64 t274) ∧ w'.cell? ⟨gb278, 1, none⟩ = some (.slice Ao9 t275.length co9)) (ds := []) z4_0 (by kernel_rfl) rfl rfl ⟨(bC4 BK283.out 0).trans rfl, (bC4 BK283.out 1).trans rfl, (bC4 BK278.out 0).trans rfl, (bC4 BK278.out 1).trans rfl⟩ (fun hHeld => ?_); refine with_tabW laws_FnNetBack.tab5 laws_FnNetBack.bits5 (fun HT_ HW_ => ?_)
     generalize w25.drew = w26 at HO277 HO282 BK278 BK283 HB hHeld ⊢
     refine tk_ 0 13 z4_1 HT_.out HW_.out hHeld ?_
     refine tk_ 1 14 z4_2 HT_.out HW_.out hHeld ?_
     refine one_ (i := 2) (N := some 15) z4_3 rfl rfl (one_of HT_.out (by kernel_rfl)) (by decide) (fun K hK => ?_)
     refine goes_ Try.func27 (by kernel_rfl) rfl #[.agg #[.int .i64 t274, .slice Ao9 t275.length co9]] (by rfl) rfl rfl na_ ?_
     with_reducible refine (spec_NetBack.calls k t274 _ _ t275 t284 t285 _ ?side1 ?side2 A15.out).mono ?_
     (case side1 => exact nc_ (rR4 HO277.out).2.2)
     (case side2 => exact (rR4 HO277.out).2.1)
     rintro e w27 ⟨v286, rfl, ho0, hb⟩
     refine ⟨_, rfl, ?_⟩
     have n0_ := Aside0.mk (Kd.R_elder' (nr_ HO277.out) (Kd.R_base ho0) hb)
     have n1_ := Aside0.mk (Kd.R_elder' (nr_ HO282.out) (Kd.R_base ho0) hb)
     have n2_ := Aside0.mk (Kd.R_lower (Kd.R_new' (Kd.R_new' ho0 (Kd.R_lt (nr_ HO277.out))) (Kd.R_lt (nr_ HO282.out))) (below_size (ne_ HB.out)))
     have n3_ := Aside0.mk (blk_below (g := gb278) (o := .cells #[.int .i64 t274, .slice Ao9 t275.length co9] 29 (0, 0)) (nb_ BK278.out) hb)
     have n4_ := Aside0.mk (blk_below (g := gb283) (o := .cells #[.int .i64 t279, .slice Ao14 t280.length co14] 29 (0, 0)) (nb_ BK283.out) hb)
     have n5_ := Aside0.mk (below_step (ne_ HB.out) hb)
     clear HO277
     clear HO282
     clear BK278
     clear BK283
     clear HB
     have HO277 := n0_
     have HO282 := n1_
     have HO287 := n2_
     have BK278 := n3_
     have BK283 := n4_
     have HB := n5_
     clear n0_ n1_ n2_ n3_ n4_ n5_
     (try clear hb)
     (try clear hb2)
     (try clear hk)
     (try clear hi)
     (try clear ho0)
     obtain ⟨Ao28, co28, eo28⟩ := Kd.R_slice HO287.out
     (first | subst eo28 | (injection eo28 with f1_ f2_ f3_; have f4_ := f1_.symm; have f5_ := f3_.symm; clear f1_ f2_ f3_; subst f4_; subst f5_))
     refine hK.out _ _ ⟨(bC4 BK283.out 0).trans rfl, (bC4 BK283.out 1).trans rfl, (bC4 BK278.out 0).trans rfl, (bC4 BK278.out 1).trans rfl⟩ (fun hHeld => ?_)
     clear hK K
     refine norm_ (a' := ?_) ?_ ?_
     rotate_left
     ·show Act.put _ (some 15) _ = _
      simp only [Act.put, List.setIfInBounds_toArray, List.set_cons_zero, List.set_cons_succ, i64_w, i32_w]
      rfl
     refine one_ (i := 3) (N := some 16) z4_4 rfl rfl (one_of HT_.out (by kernel_rfl)) (by decide) (fun K hK => ?_)
     refine goes_ Try.func26 (by kernel_rfl) rfl #[.agg #[.int .i64 t279, .slice Ao14 t280.length co14], .agg #[.int .i64 t284, .slice Ao28 t285.length co28]] (by rfl) rfl rfl na_ ?_
     with_reducible refine (laws_wkNet.calls k t279 _ _ t280 t284 _ _ t285 false _ ?side1 ?side2 ?side3 ?side4 A16.out).mono ?_
     (case side1 => exact nc_ (rR4 HO282.out).2.2)
     (case side2 => exact (rR4 HO282.out).2.1)
     (case side3 => exact nc_ (rR4 HO287.out).2.2)
     (case side4 => exact (rR4 HO287.out).2.1)
     rintro e w29 ⟨rfl, hb⟩
     refine ⟨_, rfl, ?_⟩
     have n0_ := Aside0.mk (Kd.R_below (nr_ HO277.out) hb)
     have n1_ := Aside0.mk (Kd.R_below (nr_ HO282.out) hb)
     have n2_ := Aside0.mk (Kd.R_below (nr_ HO287.out) hb)
     have n3_ := Aside0.mk (blk_below (g := gb278) (o := .cells #[.int .i64 t274, .slice Ao9 t275.length co9] 29 (0, 0)) (nb_ BK278.out) hb)
     have n4_ := Aside0.mk (blk_below (g := gb283) (o := .cells #[.int .i64 t279, .slice Ao14 t280.length co14] 29 (0, 0)) (nb_ BK283.out) hb)
     have n5_ := Aside0.mk (below_step (ne_ HB.out) hb)
     clear HO277
     clear HO282
     clear HO287
     clear BK278
     clear BK283
     clear HB
     have HO277 := n0_
     have HO282 := n1_
     have HO287 := n2_
     have BK278 := n3_
     have BK283 := n4_
     have HB := n5_
     clear n0_ n1_ n2_ n3_ n4_ n5_
     (try clear hb)
     (try clear hb2)
     (try clear hk)
     (try clear hi)
     refine hK.out _ _ ⟨(bC4 BK283.out 0).trans rfl, (bC4 BK283.out 1).trans rfl, (bC4 BK278.out 0).trans rfl, (bC4 BK278.out 1).trans rfl⟩ (fun hHeld => ?_)
     clear hK K
     refine norm_ (a' := ?_) ?_ ?_
     rotate_left
     ·show Act.put _ (some 16) _ = _
      simp only [Act.put, List.setIfInBounds_toArray, List.set_cons_zero, List.set_cons_succ, i64_w, i32_w]
      rfl
     refine pu_ 4 17 z4_5 HT_.out ?_
     refine pu_ 5 18 z4_6 HT_.out ?_
     refine un_ 6 19 z4_7 HT_.out ?_
     refine un_ 7 20 z4_8 HT_.out ?_
     refine un_ 8 21 z4_9 HT_.out ?_
     refine pu_ 9 22 z4_10 HT_.out ?_
     refine done_ (done_of HT_.out (by kernel_rfl)) ?_
     try go_wp2
     go_meet
     case rel => exact ⟨_, (true), ns_, H', ⟨by first | omega | exact Nat.le_refl _⟩, ⟨by (with_reducible repeat (first | apply Kd.R_alloc | apply Kd.R_drewN | apply Kd.R_drew)); exact Kd.R_mono HO277.out (fun _ hk => hk.1)⟩, ⟨by (with_reducible repeat (first | apply Kd.R_alloc | apply Kd.R_drewN | apply Kd.R_drew)); exact Kd.R_mono HO282.out (fun _ hk => hk.1)⟩, ⟨by (with_reducible repeat (first | refine blk_drewN ?_ _ | refine blk_drew ?_ | refine blk_alloc ?_ _)); exact BK278.out⟩, ⟨by (with_reducible repeat (first | refine blk_drewN ?_ _ | refine blk_drew ?_ | refine blk_alloc ?_ _)); exact BK283.out⟩, ⟨by repeat (first | (with_reducible first | exact HB.out | apply below_alloc | apply pw_below_drewN | apply below_drew1 | refine below_set ?_ GE278.out | refine below_set ?_ GE283.out) | exact HB.out)⟩⟩
   case rest =>
    clear HC5
    try clear c1
    try clear c2
    try clear c2b0
    try clear c2b1
    try clear p2
    try clear c4
    try clear c12
    try clear c17
    try clear c22
    try clear c24
    try clear c25
    try clear c26
    try clear c27
    try clear hcz13_0
    try clear hcz13_1
    try clear hcz8_0
    try clear hcz8_1
    try clear hfz13_0
    try clear hfz13_1
    try clear hfz8_0
    try clear hfz8_1
    obtain ⟨kq, x22_4, rfl, HA, HJ4, HO_279001, HO_284001, BK278, BK283, HB⟩ := hcut
    cases kq with
    | zero => exact absurd HA.out (by simp [laws_FnNetBack.j0])
    | succ kj4 =>
     have H := HA.out
     clear HA
     simp only [laws_FnNetBack.j0] at H
     by_cases c30 : x22_4 = true
     ·subst c30
      have H1 : ((spec_NetBack.f kj4 t274 t275).bind fun bt290 => ((laws_wkNet.f kj4 t279 t280 bt290.1 bt290.2).bind fun t294 => (some t294))) = some r := by rw [if_pos rfl] at H; exact H
      clear H
      have H := H1
      clear H1
      replace H := Option.bind_eq_some_iff.mp H
      obtain ⟨⟨t290, t291⟩, A310, H⟩ := H
      replace H : ((laws_wkNet.f kj4 t279 t280 t290 t291).bind fun t294 => (some t294)) = some r := H
      have A31 := Aside0.mk A310
      clear A310
      replace H := Option.bind_eq_some_iff.mp H
      obtain ⟨t294, A320, H⟩ := H
      replace H : (some t294) = some r := H
      have A32 := Aside0.mk A320
      clear A320
      obtain rfl := Option.some.inj H
      try go_wp2
      have n0_ := Aside0.mk (Kd.R_drew HO_279001.out)
      have n1_ := Aside0.mk (Kd.R_drew HO_284001.out)
      have n2_ := Aside0.mk (blk_drew BK278.out)
      have n3_ := Aside0.mk (blk_drew BK283.out)
      have n4_ := Aside0.mk (below_drew1 HB.out)
      clear HO_279001
      clear HO_284001
      clear BK278
      clear BK283
      clear HB
      have HO_279001 := n0_
      have HO_284001 := n1_
      have BK278 := n2_
      have BK283 := n3_
      have HB := n4_
      clear n0_ n1_ n2_ n3_ n4_
      refine start_ (n := 5) (S := fun w' => w'.cell? ⟨gb283, 0, none⟩ = some (.int .i64 t279) ∧ w'.cell? ⟨gb283, 1, none⟩ = some (.slice Ao14 t280.length co14) ∧ w'.cell? ⟨gb278, 0, none⟩ = some (.int .i64 t274) ∧ w'.cell? ⟨gb278, 1, none⟩ = some (.slice Ao9 t275.length co9)) (ds := []) #[false, false, false, false, false] (by kernel_rfl) rfl rfl ⟨(bC4 BK283.out 0).trans rfl, (bC4 BK283.out 1).trans rfl, (bC4 BK278.out 0).trans rfl, (bC4 BK278.out 1).trans rfl⟩ (fun hHeld => ?_)
      generalize wc.drew = w33 at HO_279001 HO_284001 BK278 BK283 HB hHeld ⊢
      refine take_ (i := 0) (N := some 23) (v := ?_) (a' := ?_) #[true, false, false, false, false] rfl rfl (by kernel_rfl) (fun _ _ _ h => h) (Or.inl ⟨by rfl, ?_⟩) hHeld ?_ ?_
      rotate_left
      ·rintro w' ⟨s0, s1, s2, s3⟩
       go_simp
       with_reducible rfl
      rotate_left
      ·simp only [Act.put, List.setIfInBounds_toArray, List.set_cons_zero, List.set_cons_succ, i64_w, i32_w]
       rfl
      refine take_ (i := 1) (N := some 24) (v := ?_) (a' := ?_) #[true, true, false, false, false] rfl rfl (by kernel_rfl) (fun _ _ _ h => h) (Or.inl ⟨by rfl, ?_⟩) hHeld ?_ ?_
      rotate_left
      ·rintro w' ⟨s0, s1, s2, s3⟩
       go_simp
       with_reducible rfl
      rotate_left
      ·simp only [Act.put, List.setIfInBounds_toArray, List.set_cons_zero, List.set_cons_succ, i64_w, i32_w]
       rfl
      refine one_ (i := 2) (N := some 25) #[true, true, true, false, false] rfl rfl (by kernel_rfl) (by decide) (fun K hK => ?_)
      refine goes_ Try.func27 (by kernel_rfl) rfl #[.agg #[.int .i64 t274, .slice Ao9 t275.length co9]] (by rfl) rfl rfl na_ ?_
      with_reducible refine (spec_NetBack.calls kj4 t274 _ _ t275 t290 t291 _ ?side1 ?side2 A31.out).mono ?_
      (case side1 => exact nc_ (rR4 HO_279001.out).2.2)
      (case side2 => exact (rR4 HO_279001.out).2.1)
      rintro e w34 ⟨v292, rfl, ho0, hb⟩
      refine ⟨_, rfl, ?_⟩
      have n0_ := Aside0.mk (Kd.R_elder' (nr_ HO_279001.out) (Kd.R_base ho0) hb)
      have n1_ := Aside0.mk (Kd.R_elder' (nr_ HO_284001.out) (Kd.R_base ho0) hb)
      have n2_ := Aside0.mk (Kd.R_lower (Kd.R_new' (Kd.R_new' ho0 (Kd.R_lt (nr_ HO_279001.out))) (Kd.R_lt (nr_ HO_284001.out))) (below_size (ne_ HB.out)))
      have n3_ := Aside0.mk (blk_below (g := gb278) (o := .cells #[.int .i64 t274, .slice Ao9 t275.length co9] 29 (0, 0)) (nb_ BK278.out) hb)
      have n4_ := Aside0.mk (blk_below (g := gb283) (o := .cells #[.int .i64 t279, .slice Ao14 t280.length co14] 29 (0, 0)) (nb_ BK283.out) hb)
      have n5_ := Aside0.mk (below_step (ne_ HB.out) hb)
      clear HO_279001
      clear HO_284001
      clear BK278
      clear BK283
      clear HB
      have HO_279001 := n0_
      have HO_284001 := n1_
      have HO293 := n2_
      have BK278 := n3_
      have BK283 := n4_
      have HB := n5_
      clear n0_ n1_ n2_ n3_ n4_ n5_
      (try clear hb)
      (try clear hb2)
      (try clear hk)
      (try clear hi)
      (try clear ho0)
      obtain ⟨Ao35, co35, eo35⟩ := Kd.R_slice HO293.out
      (first | subst eo35 | (injection eo35 with f1_ f2_ f3_; have f4_ := f1_.symm; have f5_ := f3_.symm; clear f1_ f2_ f3_; subst f4_; subst f5_))
      refine hK.out _ _ ⟨(bC4 BK283.out 0).trans rfl, (bC4 BK283.out 1).trans rfl, (bC4 BK278.out 0).trans rfl, (bC4 BK278.out 1).trans rfl⟩ (fun hHeld => ?_)
      clear hK K
      refine norm_ (a' := ?_) ?_ ?_
      rotate_left
      ·show Act.put _ (some 25) _ = _
       simp only [Act.put, List.setIfInBounds_toArray, List.set_cons_zero, List.set_cons_succ, i64_w, i32_w]
       rfl
      refine one_ (i := 3) (N := some 26) #[true, true, true, true, false] rfl rfl (by kernel_rfl) (by decide) (fun K hK => ?_)
      refine goes_ Try.func26 (by kernel_rfl) rfl #[.agg #[.int .i64 t279, .slice Ao14 t280.length co14], .agg #[.int .i64 t290, .slice Ao35 t291.length co35]] (by rfl) rfl rfl na_ ?_
      with_reducible refine (laws_wkNet.calls kj4 t279 _ _ t280 t290 _ _ t291 t294 _ ?side1 ?side2 ?side3 ?side4 A32.out).mono ?_
      (case side1 => exact nc_ (rR4 HO_284001.out).2.2)
      (case side2 => exact (rR4 HO_284001.out).2.1)
      (case side3 => exact nc_ (rR4 HO293.out).2.2)
      (case side4 => exact (rR4 HO293.out).2.1)
      rintro e w36 ⟨rfl, hb⟩
      refine ⟨_, rfl, ?_⟩
      have n0_ := Aside0.mk (Kd.R_below (nr_ HO_279001.out) hb)
      have n1_ := Aside0.mk (Kd.R_below (nr_ HO_284001.out) hb)
      have n2_ := Aside0.mk (Kd.R_below (nr_ HO293.out) hb)
      have n3_ := Aside0.mk (blk_below (g := gb278) (o := .cells #[.int .i64 t274, .slice Ao9 t275.length co9] 29 (0, 0)) (nb_ BK278.out) hb)
      have n4_ := Aside0.mk (blk_below (g := gb283) (o := .cells #[.int .i64 t279, .slice Ao14 t280.length co14] 29 (0, 0)) (nb_ BK283.out) hb)
      have n5_ := Aside0.mk (below_step (ne_ HB.out) hb)
      clear HO_279001
      clear HO_284001
      clear HO293
      clear BK278
      clear BK283
      clear HB
      have HO_279001 := n0_
      have HO_284001 := n1_
      have HO293 := n2_
      have BK278 := n3_
      have BK283 := n4_
      have HB := n5_
      clear n0_ n1_ n2_ n3_ n4_ n5_
      (try clear hb)
      (try clear hb2)
      (try clear hk)
      (try clear hi)
      refine hK.out _ _ ⟨(bC4 BK283.out 0).trans rfl, (bC4 BK283.out 1).trans rfl, (bC4 BK278.out 0).trans rfl, (bC4 BK278.out 1).trans rfl⟩ (fun hHeld => ?_)
      clear hK K
      refine norm_ (a' := ?_) ?_ ?_
      rotate_left
      ·show Act.put _ (some 26) _ = _
       simp only [Act.put, List.setIfInBounds_toArray, List.set_cons_zero, List.set_cons_succ, i64_w, i32_w]
       rfl
      refine pure_ (i := 4) (N := some 2) (v := ?_) (a' := ?_) #[true, true, true, true, true] rfl rfl (by kernel_rfl) (fun _ _ _ h => h) (Or.inl ⟨by rfl, ?_⟩) ?_ ?_
      rotate_left
      ·intro w'
       go_simp
       with_reducible rfl
      rotate_left
      ·simp only [Act.put, List.setIfInBounds_toArray, List.set_cons_zero, List.set_cons_succ, i64_w, i32_w]
       rfl
      refine done_ (by kernel_rfl) ?_
      try go_wp2
      go_ret
      exact ⟨by first | rfl | (simp [errW_none, errW_some] <;> rfl) | (simp [*, errW_none, errW_some] <;> rfl), by repeat (first | (with_reducible first | exact HB.out | apply below_alloc | apply pw_below_drewN | apply below_drew1 | refine below_set ?_ GE278.out | refine below_set ?_ GE283.out) | exact HB.out)⟩
     ·replace c30 := Bool.eq_false_iff.mpr c30
      subst c30
      have H1 : (laws_FnNetBack.l0 kj4 0 t274 t275 t279 t280) = some r := by rw [if_neg (show ¬ (false = true) by decide)] at H; exact H
      clear H
      have H := H1
      clear H1
      have H' := Aside0.mk H
      clear H
      go_wp2
      go_loopg [5] kj4 (fun kq v5 w' => ∃ (x5_2 : Int), v5 = .int .i64 x5_2 ∧ Aside0 (laws_FnNetBack.l0 kq x5_2 t274 t275 t279 t280 = some r) ∧ Aside0 (kq ≤ kj4) ∧ Aside0 (Kd.R k37 37 w' w.heap.size (fun k_ => some k_ ≠ ((.slice Ao14 t280.length co14) : Value).ownBlock) (.slice Ao9 t275.length co9) t275) ∧ Aside0 (Kd.R k37 37 w' w.heap.size (fun k_ => some k_ ≠ ((.slice Ao9 t275.length co9) : Value).ownBlock) (.slice Ao14 t280.length co14) t280) ∧ Aside0 (w'.heap[gb278]? = some (.cells #[.int .i64 t274, (.slice Ao9 t275.length co9)] 29 (0, 0))) ∧ Aside0 (w'.heap[gb283]? = some (.cells #[.int .i64 t279, (.slice Ao14 t280.length co14)] 29 (0, 0))) ∧ Aside0 (Below w.heap.size w w'))
      case atStart => exact ⟨(0), ns_, H', ⟨Nat.le_refl _⟩, ⟨by (with_reducible repeat (first | apply Kd.R_alloc | apply Kd.R_drewN | apply Kd.R_drew)); exact HO_279001.out⟩, ⟨by (with_reducible repeat (first | apply Kd.R_alloc | apply Kd.R_drewN | apply Kd.R_drew)); exact HO_284001.out⟩, ⟨by (with_reducible repeat (first | refine blk_drewN ?_ _ | refine blk_drew ?_ | refine blk_alloc ?_ _)); exact BK278.out⟩, ⟨by (with_reducible repeat (first | refine blk_drewN ?_ _ | refine blk_drew ?_ | refine blk_alloc ?_ _)); exact BK283.out⟩, ⟨by repeat (first | (with_reducible first | exact HB.out | apply below_alloc | apply pw_below_drewN | apply below_drew1 | refine below_set ?_ GE278.out | refine below_set ?_ GE283.out) | exact HB.out)⟩⟩
      case round =>
       clear H'
       try clear c1
       try clear c2
       try clear c2b0
       try clear c2b1
       try clear p2
       try clear c3
       try clear c4
       try clear c12
       try clear c17
       try clear c22
       try clear c24
       try clear c25
       try clear c26
       try clear c27
       try clear c30
       try clear hcz13_0
       try clear hcz13_1
       try clear hcz8_0
       try clear hcz8_1
       try clear hfz13_0
       try clear hfz13_1
       try clear hfz8_0
       try clear hfz8_1
       try clear p2
       obtain ⟨x5_2, rfl, HA, HK2, HO_279001, HO_284001, BK278, BK283, HB⟩ := hrel
       cases gk with
       | zero => exact absurd HA.out (by simp [laws_FnNetBack.l0])
       | succ k2 =>
        have H := HA.out
        clear HA
        simp only [laws_FnNetBack.l0] at H
        by_cases c37 : x5_2 < (t275.length : Int)
        ·rw [if_pos c37] at H
         have c37b0 : decide (x5_2 < (t275.length : Int)) = true := decide_eq_true c37
         clear c37
         by_cases c38 : 0 ≤ x5_2
         ·rw [if_pos c38] at H
          have c38b0 : decide (0 ≤ x5_2) = true := decide_eq_true c38
          clear c38
          by_cases c39 : x5_2 < (t280.length : Int)
          ·rw [if_pos c39] at H
           have c39b0 : decide (x5_2 < (t280.length : Int)) = true := decide_eq_true c39
           clear c39
           by_cases c40 : ((rd_T37 t280 x5_2).f0) = ((rd_T37 t275 x5_2).f1)
           ·rw [if_pos c40] at H
            have c40b0 : (((rd_T37 t280 x5_2).f0) == ((rd_T37 t275 x5_2).f1)) = true := beq_iff_eq.mpr c40
            have c40b1 : (((rd_T37 t280 x5_2).f0) != ((rd_T37 t275 x5_2).f1)) = false := bne_eq_false_iff_eq.mpr c40
            clear c40
            by_cases c41 : ((rd_T37 t280 x5_2).f1) = ((rd_T37 t275 x5_2).f0)
            ·rw [if_pos c41] at H
             have c41b0 : (((rd_T37 t280 x5_2).f1) == ((rd_T37 t275 x5_2).f0)) = true := beq_iff_eq.mpr c41
             have c41b1 : (((rd_T37 t280 x5_2).f1) != ((rd_T37 t275 x5_2).f0)) = false := bne_eq_false_iff_eq.mpr c41
             clear c41
             have H' := Aside0.mk H
             clear H
             have hnb42 := NB278_283.out
             have hnc42 := NB283_278.out
             have hcz43_0 : wr.cell? ⟨gb278, 0, none⟩ = some (.int .i64 t274) := (bC4 BK278.out 0).trans rfl
             have hcz43_1 : wr.cell? ⟨gb278, 1, none⟩ = some (.slice Ao9 t275.length co9) := (bC4 BK278.out 1).trans rfl
             have hfz43_0 := blk_frozen BK278.out 0
             have hfz43_1 := blk_frozen BK278.out 1
             try go_wp2
             have n0_ := Aside0.mk (Kd.R_drew HO_279001.out)
             have n1_ := Aside0.mk (Kd.R_drew HO_284001.out)
             have n2_ := Aside0.mk (blk_drew BK278.out)
             have n3_ := Aside0.mk (blk_drew BK283.out)
             have n4_ := Aside0.mk (below_drew1 HB.out)
             clear HO_279001
             clear HO_284001
             clear BK278
             clear BK283
             clear HB
             have HO_279001 := n0_
             have HO_284001 := n1_
             have BK278 := n2_
             have BK283 := n3_
             have HB := n4_
             clear n0_ n1_ n2_ n3_ n4_
             have p295 : 0 ≤ (x5_2 : Int) := of_decide_eq_true nx_
             have q295 : x5_2 < (t280.length : Int) := of_decide_eq_true nx_
             obtain ⟨ad295, e295, hx295_0, hx295_1, hx295_2, hx295_3, hx295_4⟩ := at_T37 (rR4 HO_284001.out).2.2 x5_2 p295 q295
             cases e295
             replace p295 := eq_true p295
             replace q295 := eq_true q295
             have p296 : 0 ≤ (x5_2 : Int) := of_decide_eq_true nx_
             have q296 : x5_2 < (t275.length : Int) := of_decide_eq_true nx_
             obtain ⟨ad296, e296, hx296_0, hx296_1, hx296_2, hx296_3, hx296_4⟩ := at_T37 (rR4 HO_279001.out).2.2 x5_2 p296 q296
             cases e296
             replace p296 := eq_true p296
             replace q296 := eq_true q296
             have p297 : 0 ≤ (x5_2 : Int) := of_decide_eq_true nx_
             have q297 : x5_2 < (t280.length : Int) := of_decide_eq_true nx_
             obtain ⟨ad297, e297, hx297_0, hx297_1, hx297_2, hx297_3, hx297_4⟩ := at_T37 (rR4 HO_284001.out).2.2 x5_2 p297 q297
             obtain rfl : ad295 = ad297 := (by injection e297)
             replace p297 := eq_true p297
             replace q297 := eq_true q297
             have p298 : 0 ≤ (x5_2 : Int) := of_decide_eq_true nx_
             have q298 : x5_2 < (t275.length : Int) := of_decide_eq_true nx_
             obtain ⟨ad298, e298, hx298_0, hx298_1, hx298_2, hx298_3, hx298_4⟩ := at_T37 (rR4 HO_279001.out).2.2 x5_2 p298 q298
             obtain rfl : ad296 = ad298 := (by injection e298)
             replace p298 := eq_true p298
             replace q298 := eq_true q298
             refine start_ (n := 28) (S := fun w' => w'.cell? ⟨gb283, 0, none⟩ = some (.int .i64 t279) ∧ w'.cell? ⟨gb283, 1, none⟩ = some (.slice (some ad295) t280.length co14) ∧ w'.cell? ⟨gb278, 0, none⟩ = some (.int .i64 t274) ∧ w'.cell? ⟨gb278, 1, none⟩ = some (.slice (some ad296) t275.length co9) ∧ w'.cell? (ad295.add ((x5_2).toNat * 5)) = some (.int .i64 ((rd_T37 t280 x5_2).f0)) ∧ w'.cell? ⟨(ad295.add ((x5_2).toNat * 5)).block, (ad295.add ((x5_2).toNat * 5)).off + 1, none⟩ = some (.int .i64 ((rd_T37 t280 x5_2).f1)) ∧ w'.cell? ⟨(ad295.add ((x5_2).toNat * 5)).block, (ad295.add ((x5_2).toNat * 5)).off + 2, none⟩ = some (.int .i64 ((rd_T37 t280 x5_2).f2)) ∧ w'.cell? ⟨(ad295.add ((x5_2).toNat * 5)).block, (ad295.add ((x5_2).toNat * 5)).off + 3, none⟩ = some (.int .i64 ((rd_T37 t280 x5_2).f3)) ∧ w'.cell? ⟨(ad295.add ((x5_2).toNat * 5)).block, (ad295.add ((x5_2).toNat * 5)).off + 4, none⟩ = some (.int .i64 ((rd_T37 t280 x5_2).f4)) ∧ w'.cell? (ad296.add ((x5_2).toNat * 5)) = some (.int .i64 ((rd_T37 t275 x5_2).f0)) ∧ w'.cell? ⟨(ad296.add ((x5_2).toNat * 5)).block, (ad296.add ((x5_2).toNat * 5)).off + 1, none⟩ = some (.int .i64 ((rd_T37 t275 x5_2).f1)) ∧ w'.cell? ⟨(ad296.add ((x5_2).toNat * 5)).block, (ad296.add ((x5_2).toNat * 5)).off + 2, none⟩ = some (.int .i64 ((rd_T37 t275 x5_2).f2)) ∧ w'.cell? ⟨(ad296.add ((x5_2).toNat * 5)).block, (ad296.add ((x5_2).toNat * 5)).off + 3, none⟩ = some (.int .i64 ((rd_T37 t275 x5_2).f3)) ∧ w'.cell? ⟨(ad296.add ((x5_2).toNat * 5)).block, (ad296.add ((x5_2).toNat * 5)).off + 4, none⟩ = some (.int .i64 ((rd_T37 t275 x5_2).f4)) ∧ w'.cell? (ad295.add ((x5_2).toNat * 5)) = some (.int .i64 ((rd_T37 t280 x5_2).f0)) ∧ w'.cell? ⟨(ad295.add ((x5_2).toNat * 5)).block, (ad295.add ((x5_2).toNat * 5)).off + 1, none⟩ = some (.int .i64 ((rd_T37 t280 x5_2).f1)) ∧ w'.cell? ⟨(ad295.add ((x5_2).toNat * 5)).block, (ad295.add ((x5_2).toNat * 5)).off + 2, none⟩ = some (.int .i64 ((rd_T37 t280 x5_2).f2)) ∧ w'.cell? ⟨(ad295.add ((x5_2).toNat * 5)).block, (ad295.add ((x5_2).toNat * 5)).off + 3, none⟩ = some (.int .i64 ((rd_T37 t280 x5_2).f3)) ∧ w'.cell? ⟨(ad295.add ((x5_2).toNat * 5)).block, (ad295.add ((x5_2).toNat * 5)).off + 4, none⟩ = some (.int .i64 ((rd_T37 t280 x5_2).f4)) ∧ w'.cell? (ad296.add ((x5_2).toNat * 5)) = some (.int .i64 ((rd_T37 t275 x5_2).f0)) ∧ w'.cell? ⟨(ad296.add ((x5_2).toNat * 5)).block, (ad296.add ((x5_2).toNat * 5)).off + 1, none⟩ = some (.int .i64 ((rd_T37 t275 x5_2).f1)) ∧ w'.cell? ⟨(ad296.add ((x5_2).toNat * 5)).block, (ad296.add ((x5_2).toNat * 5)).off + 2, none⟩ = some (.int .i64 ((rd_T37 t275 x5_2).f2)) ∧ w'.cell? ⟨(ad296.add ((x5_2).toNat * 5)).block, (ad296.add ((x5_2).toNat * 5)).off + 3, none⟩ = some (.int .i64 ((rd_T37 t275 x5_2).f3)) ∧ w'.cell? ⟨(ad296.add ((x5_2).toNat * 5)).block, (ad296.add ((x5_2).toNat * 5)).off + 4, none⟩ = some (.int .i64 ((rd_T37 t275 x5_2).f4))) (ds := []) z4_11 (by kernel_rfl) rfl rfl ⟨(bC4 BK283.out 0).trans rfl, (bC4 BK283.out 1).trans rfl, (bC4 BK278.out 0).trans rfl, (bC4 BK278.out 1).trans rfl, hx295_0, hx295_1, hx295_2, hx295_3, hx295_4, hx296_0, hx296_1, hx296_2, hx296_3, hx296_4, hx297_0, hx297_1, hx297_2, hx297_3, hx297_4, hx298_0, hx298_1, hx298_2, hx298_3, hx298_4⟩ (fun hHeld => ?_); refine with_tabW laws_FnNetBack.tab10 laws_FnNetBack.bits10 (fun HT_ HW_ => ?_)
             generalize wr.drew = w44 at HO_279001 HO_284001 BK278 BK283 HB hx295_0 hx295_1 hx295_2 hx295_3 hx295_4 hx296_0 hx296_1 hx296_2 hx296_3 hx296_4 hx297_0 hx297_1 hx297_2 hx297_3 hx297_4 hx298_0 hx298_1 hx298_2 hx298_3 hx298_4 hHeld ⊢
             refine pu_ 0 34 z4_12 HT_.out ?_
             refine pu_ 2 36 z4_13 HT_.out ?_
             refine pu_ 6 40 z4_14 HT_.out ?_
             refine pu_ 8 42 z4_15 HT_.out ?_
             refine tk_ 1 35 z4_16 HT_.out HW_.out hHeld ?_
             refine pu_ 3 37 z4_17 HT_.out ?_
             refine pu_ 4 38 z4_18 HT_.out ?_
             refine tk_ 5 39 z4_19 HT_.out HW_.out hHeld ?_
             refine tk_ 7 41 z4_20 HT_.out HW_.out hHeld ?_
             refine pu_ 9 43 z4_21 HT_.out ?_
             refine pu_ 10 44 z4_22 HT_.out ?_
             refine tk_ 11 45 z4_23 HT_.out HW_.out hHeld ?_
             refine pu_ 12 46 z4_24 HT_.out ?_
             refine pu_ 13 47 z4_25 HT_.out ?_
             refine pu_ 14 48 z4_26 HT_.out ?_
             refine pu_ 16 50 z4_27 HT_.out ?_
             refine pu_ 20 54 z4_28 HT_.out ?_
             refine pu_ 22 56 z4_29 HT_.out ?_
             refine tk_ 15 49 z4_30 HT_.out HW_.out hHeld ?_
             refine pu_ 17 51 z4_31 HT_.out ?_
             refine pu_ 18 52 z4_32 HT_.out ?_
             refine tk_ 19 53 z4_33 HT_.out HW_.out hHeld ?_
             refine tk_ 21 55 z4_34 HT_.out HW_.out hHeld ?_
             refine pu_ 23 57 z4_35 HT_.out ?_
             refine pu_ 24 58 z4_36 HT_.out ?_
             refine tk_ 25 59 z4_37 HT_.out HW_.out hHeld ?_
             refine pu_ 26 60 z4_38 HT_.out ?_
             refine pu_ 27 61 z4_39 HT_.out ?_
             refine done_ (done_of HT_.out (by kernel_rfl)) ?_
             try go_wp2
             go_roundg k2
             case measure => have := HJ4.out; have := HK2.out; omega
             case rel => exact ⟨(wrap64 (x5_2 + 1)), ns_, H', ⟨by have := HJ4.out; have := HK2.out; omega⟩, ⟨by (with_reducible repeat (first | apply Kd.R_alloc | apply Kd.R_drewN | apply Kd.R_drew)); exact HO_279001.out⟩, ⟨by (with_reducible repeat (first | apply Kd.R_alloc | apply Kd.R_drewN | apply Kd.R_drew)); exact HO_284001.out⟩, ⟨by (with_reducible repeat (first | refine blk_drewN ?_ _ | refine blk_drew ?_ | refine blk_alloc ?_ _)); exact BK278.out⟩, ⟨by (with_reducible repeat (first | refine blk_drewN ?_ _ | refine blk_drew ?_ | refine blk_alloc ?_ _)); exact BK283.out⟩, ⟨by repeat (first | (with_reducible first | exact HB.out | apply below_alloc | apply pw_below_drewN | apply below_drew1 | refine below_set ?_ GE278.out | refine below_set ?_ GE283.out) | exact HB.out)⟩⟩
            ·rw [if_neg c41] at H
             have c41b0 : (((rd_T37 t280 x5_2).f1) == ((rd_T37 t275 x5_2).f0)) = false := beq_eq_false_iff_ne.mpr c41
             have c41b1 : (((rd_T37 t280 x5_2).f1) != ((rd_T37 t275 x5_2).f0)) = true := bne_iff_ne.mpr c41
             obtain rfl := Option.some.inj H
             have hnb45 := NB278_283.out
             have hnc45 := NB283_278.out
             have hcz46_0 : wr.cell? ⟨gb278, 0, none⟩ = some (.int .i64 t274) := (bC4 BK278.out 0).trans rfl
             have hcz46_1 : wr.cell? ⟨gb278, 1, none⟩ = some (.slice Ao9 t275.length co9) := (bC4 BK278.out 1).trans rfl
             have hfz46_0 := blk_frozen BK278.out 0
             have hfz46_1 := blk_frozen BK278.out 1
             try go_wp2
             have n0_ := Aside0.mk (Kd.R_drew HO_279001.out)
             have n1_ := Aside0.mk (Kd.R_drew HO_284001.out)
             have n2_ := Aside0.mk (blk_drew BK278.out)
             have n3_ := Aside0.mk (blk_drew BK283.out)
             have n4_ := Aside0.mk (below_drew1 HB.out)
             clear HO_279001
             clear HO_284001
             clear BK278
             clear BK283
             clear HB
             have HO_279001 := n0_
             have HO_284001 := n1_
             have BK278 := n2_
             have BK283 := n3_
             have HB := n4_
             clear n0_ n1_ n2_ n3_ n4_
             have p295 : 0 ≤ (x5_2 : Int) := of_decide_eq_true nx_
             have q295 : x5_2 < (t280.length : Int) := of_decide_eq_true nx_
             obtain ⟨ad295, e295, hx295_0, hx295_1, hx295_2, hx295_3, hx295_4⟩ := at_T37 (rR4 HO_284001.out).2.2 x5_2 p295 q295
             cases e295
             replace p295 := eq_true p295
             replace q295 := eq_true q295
             have p296 : 0 ≤ (x5_2 : Int) := of_decide_eq_true nx_
             have q296 : x5_2 < (t275.length : Int) := of_decide_eq_true nx_
             obtain ⟨ad296, e296, hx296_0, hx296_1, hx296_2, hx296_3, hx296_4⟩ := at_T37 (rR4 HO_279001.out).2.2 x5_2 p296 q296
             cases e296
             replace p296 := eq_true p296
             replace q296 := eq_true q296
             have p297 : 0 ≤ (x5_2 : Int) := of_decide_eq_true nx_
             have q297 : x5_2 < (t280.length : Int) := of_decide_eq_true nx_
             obtain ⟨ad297, e297, hx297_0, hx297_1, hx297_2, hx297_3, hx297_4⟩ := at_T37 (rR4 HO_284001.out).2.2 x5_2 p297 q297
             obtain rfl : ad295 = ad297 := (by injection e297)
             replace p297 := eq_true p297
             replace q297 := eq_true q297
             have p298 : 0 ≤ (x5_2 : Int) := of_decide_eq_true nx_
             have q298 : x5_2 < (t275.length : Int) := of_decide_eq_true nx_
             obtain ⟨ad298, e298, hx298_0, hx298_1, hx298_2, hx298_3, hx298_4⟩ := at_T37 (rR4 HO_279001.out).2.2 x5_2 p298 q298
             obtain rfl : ad296 = ad298 := (by injection e298)
             replace p298 := eq_true p298
             replace q298 := eq_true q298
             refine start_ (n := 28) (S := fun w' => w'.cell? ⟨gb283, 0, none⟩ = some (.int .i64 t279) ∧ w'.cell? ⟨gb283, 1, none⟩ = some (.slice (some ad295) t280.length co14) ∧ w'.cell? ⟨gb278, 0, none⟩ = some (.int .i64 t274) ∧ w'.cell? ⟨gb278, 1, none⟩ = some (.slice (some ad296) t275.length co9) ∧ w'.cell? (ad295.add ((x5_2).toNat * 5)) = some (.int .i64 ((rd_T37 t280 x5_2).f0)) ∧ w'.cell? ⟨(ad295.add ((x5_2).toNat * 5)).block, (ad295.add ((x5_2).toNat * 5)).off + 1, none⟩ = some (.int .i64 ((rd_T37 t280 x5_2).f1)) ∧ w'.cell? ⟨(ad295.add ((x5_2).toNat * 5)).block, (ad295.add ((x5_2).toNat * 5)).off + 2, none⟩ = some (.int .i64 ((rd_T37 t280 x5_2).f2)) ∧ w'.cell? ⟨(ad295.add ((x5_2).toNat * 5)).block, (ad295.add ((x5_2).toNat * 5)).off + 3, none⟩ = some (.int .i64 ((rd_T37 t280 x5_2).f3)) ∧ w'.cell? ⟨(ad295.add ((x5_2).toNat * 5)).block, (ad295.add ((x5_2).toNat * 5)).off + 4, none⟩ = some (.int .i64 ((rd_T37 t280 x5_2).f4)) ∧ w'.cell? (ad296.add ((x5_2).toNat * 5)) = some (.int .i64 ((rd_T37 t275 x5_2).f0)) ∧ w'.cell? ⟨(ad296.add ((x5_2).toNat * 5)).block, (ad296.add ((x5_2).toNat * 5)).off + 1, none⟩ = some (.int .i64 ((rd_T37 t275 x5_2).f1)) ∧ w'.cell? ⟨(ad296.add ((x5_2).toNat * 5)).block, (ad296.add ((x5_2).toNat * 5)).off + 2, none⟩ = some (.int .i64 ((rd_T37 t275 x5_2).f2)) ∧ w'.cell? ⟨(ad296.add ((x5_2).toNat * 5)).block, (ad296.add ((x5_2).toNat * 5)).off + 3, none⟩ = some (.int .i64 ((rd_T37 t275 x5_2).f3)) ∧ w'.cell? ⟨(ad296.add ((x5_2).toNat * 5)).block, (ad296.add ((x5_2).toNat * 5)).off + 4, none⟩ = some (.int .i64 ((rd_T37 t275 x5_2).f4)) ∧ w'.cell? (ad295.add ((x5_2).toNat * 5)) = some (.int .i64 ((rd_T37 t280 x5_2).f0)) ∧ w'.cell? ⟨(ad295.add ((x5_2).toNat * 5)).block, (ad295.add ((x5_2).toNat * 5)).off + 1, none⟩ = some (.int .i64 ((rd_T37 t280 x5_2).f1)) ∧ w'.cell? ⟨(ad295.add ((x5_2).toNat * 5)).block, (ad295.add ((x5_2).toNat * 5)).off + 2, none⟩ = some (.int .i64 ((rd_T37 t280 x5_2).f2)) ∧ w'.cell? ⟨(ad295.add ((x5_2).toNat * 5)).block, (ad295.add ((x5_2).toNat * 5)).off + 3, none⟩ = some (.int .i64 ((rd_T37 t280 x5_2).f3)) ∧ w'.cell? ⟨(ad295.add ((x5_2).toNat * 5)).block, (ad295.add ((x5_2).toNat * 5)).off + 4, none⟩ = some (.int .i64 ((rd_T37 t280 x5_2).f4)) ∧ w'.cell? (ad296.add ((x5_2).toNat * 5)) = some (.int .i64 ((rd_T37 t275 x5_2).f0)) ∧ w'.cell? ⟨(ad296.add ((x5_2).toNat * 5)).block, (ad296.add ((x5_2).toNat * 5)).off + 1, none⟩ = some (.int .i64 ((rd_T37 t275 x5_2).f1)) ∧ w'.cell? ⟨(ad296.add ((x5_2).toNat * 5)).block, (ad296.add ((x5_2).toNat * 5)).off + 2, none⟩ = some (.int .i64 ((rd_T37 t275 x5_2).f2)) ∧ w'.cell? ⟨(ad296.add ((x5_2).toNat * 5)).block, (ad296.add ((x5_2).toNat * 5)).off + 3, none⟩ = some (.int .i64 ((rd_T37 t275 x5_2).f3)) ∧ w'.cell? ⟨(ad296.add ((x5_2).toNat * 5)).block, (ad296.add ((x5_2).toNat * 5)).off + 4, none⟩ = some (.int .i64 ((rd_T37 t275 x5_2).f4))) (ds := []) z4_11 (by kernel_rfl) rfl rfl ⟨(bC4 BK283.out 0).trans rfl, (bC4 BK283.out 1).trans rfl, (bC4 BK278.out 0).trans rfl, (bC4 BK278.out 1).trans rfl, hx295_0, hx295_1, hx295_2, hx295_3, hx295_4, hx296_0, hx296_1, hx296_2, hx296_3, hx296_4, hx297_0, hx297_1, hx297_2, hx297_3, hx297_4, hx298_0, hx298_1, hx298_2, hx298_3, hx298_4⟩ (fun hHeld => ?_); refine with_tabW laws_FnNetBack.tab10 laws_FnNetBack.bits10 (fun HT_ HW_ => ?_)
             generalize wr.drew = w47 at HO_279001 HO_284001 BK278 BK283 HB hx295_0 hx295_1 hx295_2 hx295_3 hx295_4 hx296_0 hx296_1 hx296_2 hx296_3 hx296_4 hx297_0 hx297_1 hx297_2 hx297_3 hx297_4 hx298_0 hx298_1 hx298_2 hx298_3 hx298_4 hHeld ⊢
             refine pu_ 0 34 z4_12 HT_.out ?_
             refine pu_ 2 36 z4_13 HT_.out ?_
             refine pu_ 6 40 z4_14 HT_.out ?_
             refine pu_ 8 42 z4_15 HT_.out ?_
             refine tk_ 1 35 z4_16 HT_.out HW_.out hHeld ?_
             refine pu_ 3 37 z4_17 HT_.out ?_
             refine pu_ 4 38 z4_18 HT_.out ?_
             refine tk_ 5 39 z4_19 HT_.out HW_.out hHeld ?_
             refine tk_ 7 41 z4_20 HT_.out HW_.out hHeld ?_
             refine pu_ 9 43 z4_21 HT_.out ?_
             refine pu_ 10 44 z4_22 HT_.out ?_
             refine tk_ 11 45 z4_23 HT_.out HW_.out hHeld ?_
             refine pu_ 12 46 z4_24 HT_.out ?_
             refine pu_ 13 47 z4_25 HT_.out ?_
             refine pu_ 14 48 z4_26 HT_.out ?_
             refine pu_ 16 50 z4_27 HT_.out ?_
             refine pu_ 20 54 z4_28 HT_.out ?_
             refine pu_ 22 56 z4_29 HT_.out ?_
             refine tk_ 15 49 z4_30 HT_.out HW_.out hHeld ?_
             refine pu_ 17 51 z4_31 HT_.out ?_
             refine pu_ 18 52 z4_32 HT_.out ?_
             refine tk_ 19 53 z4_33 HT_.out HW_.out hHeld ?_
             refine tk_ 21 55 z4_34 HT_.out HW_.out hHeld ?_
             refine pu_ 23 57 z4_35 HT_.out ?_
             refine pu_ 24 58 z4_36 HT_.out ?_
             refine tk_ 25 59 z4_37 HT_.out HW_.out hHeld ?_
             refine pu_ 26 60 z4_38 HT_.out ?_
             refine pu_ 27 61 z4_39 HT_.out ?_
             refine done_ (done_of HT_.out (by kernel_rfl)) ?_
             try go_wp2
             go_ret
             exact ⟨by first | rfl | (simp [errW_none, errW_some] <;> rfl) | (simp [*, errW_none, errW_some] <;> rfl), by repeat (first | (with_reducible first | exact HB.out | apply below_alloc | apply pw_below_drewN | apply below_drew1 | refine below_set ?_ GE278.out | refine below_set ?_ GE283.out) | exact HB.out)⟩
           ·rw [if_neg c40] at H
            have c40b0 : (((rd_T37 t280 x5_2).f0) == ((rd_T37 t275 x5_2).f1)) = false := beq_eq_false_iff_ne.mpr c40
            have c40b1 : (((rd_T37 t280 x5_2).f0) != ((rd_T37 t275 x5_2).f1)) = true := bne_iff_ne.mpr c40
            obtain rfl := Option.some.inj H
            have hnb48 := NB278_283.out
            have hnc48 := NB283_278.out
            have hcz49_0 : wr.cell? ⟨gb278, 0, none⟩ = some (.int .i64 t274) := (bC4 BK278.out 0).trans rfl
            have hcz49_1 : wr.cell? ⟨gb278, 1, none⟩ = some (.slice Ao9 t275.length co9) := (bC4 BK278.out 1).trans rfl
            have hfz49_0 := blk_frozen BK278.out 0
            have hfz49_1 := blk_frozen BK278.out 1
            try go_wp2
            have n0_ := Aside0.mk (Kd.R_drew HO_279001.out)
            have n1_ := Aside0.mk (Kd.R_drew HO_284001.out)
            have n2_ := Aside0.mk (blk_drew BK278.out)
            have n3_ := Aside0.mk (blk_drew BK283.out)
            have n4_ := Aside0.mk (below_drew1 HB.out)
            clear HO_279001
            clear HO_284001
            clear BK278
            clear BK283
            clear HB
            have HO_279001 := n0_
            have HO_284001 := n1_
            have BK278 := n2_
            have BK283 := n3_
            have HB := n4_
            clear n0_ n1_ n2_ n3_ n4_
            have p295 : 0 ≤ (x5_2 : Int) := of_decide_eq_true nx_
            have q295 : x5_2 < (t280.length : Int) := of_decide_eq_true nx_
            obtain ⟨ad295, e295, hx295_0, hx295_1, hx295_2, hx295_3, hx295_4⟩ := at_T37 (rR4 HO_284001.out).2.2 x5_2 p295 q295
            cases e295
            replace p295 := eq_true p295
            replace q295 := eq_true q295
            have p296 : 0 ≤ (x5_2 : Int) := of_decide_eq_true nx_
            have q296 : x5_2 < (t275.length : Int) := of_decide_eq_true nx_
            obtain ⟨ad296, e296, hx296_0, hx296_1, hx296_2, hx296_3, hx296_4⟩ := at_T37 (rR4 HO_279001.out).2.2 x5_2 p296 q296
            cases e296
            replace p296 := eq_true p296
            replace q296 := eq_true q296
            refine start_ (n := 28) (S := fun w' => w'.cell? ⟨gb283, 0, none⟩ = some (.int .i64 t279) ∧ w'.cell? ⟨gb283, 1, none⟩ = some (.slice (some ad295) t280.length co14) ∧ w'.cell? ⟨gb278, 0, none⟩ = some (.int .i64 t274) ∧ w'.cell? ⟨gb278, 1, none⟩ = some (.slice (some ad296) t275.length co9) ∧ w'.cell? (ad295.add ((x5_2).toNat * 5)) = some (.int .i64 ((rd_T37 t280 x5_2).f0)) ∧ w'.cell? ⟨(ad295.add ((x5_2).toNat * 5)).block, (ad295.add ((x5_2).toNat * 5)).off + 1, none⟩ = some (.int .i64 ((rd_T37 t280 x5_2).f1)) ∧ w'.cell? ⟨(ad295.add ((x5_2).toNat * 5)).block, (ad295.add ((x5_2).toNat * 5)).off + 2, none⟩ = some (.int .i64 ((rd_T37 t280 x5_2).f2)) ∧ w'.cell? ⟨(ad295.add ((x5_2).toNat * 5)).block, (ad295.add ((x5_2).toNat * 5)).off + 3, none⟩ = some (.int .i64 ((rd_T37 t280 x5_2).f3)) ∧ w'.cell? ⟨(ad295.add ((x5_2).toNat * 5)).block, (ad295.add ((x5_2).toNat * 5)).off + 4, none⟩ = some (.int .i64 ((rd_T37 t280 x5_2).f4)) ∧ w'.cell? (ad296.add ((x5_2).toNat * 5)) = some (.int .i64 ((rd_T37 t275 x5_2).f0)) ∧ w'.cell? ⟨(ad296.add ((x5_2).toNat * 5)).block, (ad296.add ((x5_2).toNat * 5)).off + 1, none⟩ = some (.int .i64 ((rd_T37 t275 x5_2).f1)) ∧ w'.cell? ⟨(ad296.add ((x5_2).toNat * 5)).block, (ad296.add ((x5_2).toNat * 5)).off + 2, none⟩ = some (.int .i64 ((rd_T37 t275 x5_2).f2)) ∧ w'.cell? ⟨(ad296.add ((x5_2).toNat * 5)).block, (ad296.add ((x5_2).toNat * 5)).off + 3, none⟩ = some (.int .i64 ((rd_T37 t275 x5_2).f3)) ∧ w'.cell? ⟨(ad296.add ((x5_2).toNat * 5)).block, (ad296.add ((x5_2).toNat * 5)).off + 4, none⟩ = some (.int .i64 ((rd_T37 t275 x5_2).f4))) (ds := []) z4_11 (by kernel_rfl) rfl rfl ⟨(bC4 BK283.out 0).trans rfl, (bC4 BK283.out 1).trans rfl, (bC4 BK278.out 0).trans rfl, (bC4 BK278.out 1).trans rfl, hx295_0, hx295_1, hx295_2, hx295_3, hx295_4, hx296_0, hx296_1, hx296_2, hx296_3, hx296_4⟩ (fun hHeld => ?_); refine with_tabW laws_FnNetBack.tab10 laws_FnNetBack.bits10 (fun HT_ HW_ => ?_)
            generalize wr.drew = w50 at HO_279001 HO_284001 BK278 BK283 HB hx295_0 hx295_1 hx295_2 hx295_3 hx295_4 hx296_0 hx296_1 hx296_2 hx296_3 hx296_4 hHeld ⊢
            refine pu_ 0 34 z4_12 HT_.out ?_
            refine pu_ 2 36 z4_13 HT_.out ?_
            refine pu_ 6 40 z4_14 HT_.out ?_
            refine pu_ 8 42 z4_15 HT_.out ?_
            refine tk_ 1 35 z4_16 HT_.out HW_.out hHeld ?_
            refine pu_ 3 37 z4_17 HT_.out ?_
            refine pu_ 4 38 z4_18 HT_.out ?_
            refine tk_ 5 39 z4_19 HT_.out HW_.out hHeld ?_
            refine tk_ 7 41 z4_20 HT_.out HW_.out hHeld ?_
            refine pu_ 9 43 z4_21 HT_.out ?_
            refine pu_ 10 44 z4_22 HT_.out ?_
            refine tk_ 11 45 z4_23 HT_.out HW_.out hHeld ?_
            refine pu_ 12 46 z4_24 HT_.out ?_
            refine pu_ 13 47 z4_25 HT_.out ?_
            refine un_ 14 48 z4_26 HT_.out ?_
            refine un_ 15 49 #[true, true, true, true, true, true, true, true, true, true, true, true, true, true, true, true, false, false, false, false, false, false, false, false, false, false, false, false] HT_.out ?_
            refine un_ 16 50 #[true, true, true, true, true, true, true, true, true, true, true, true, true, true, true, true, true, false, false, false, false, false, false, false, false, false, false, false] HT_.out ?_
            refine un_ 17 51 #[true, true, true, true, true, true, true, true, true, true, true, true, true, true, true, true, true, true, false, false, false, false, false, false, false, false, false, false] HT_.out ?_
            refine un_ 18 52 #[true, true, true, true, true, true, true, true, true, true, true, true, true, true, true, true, true, true, true, false, false, false, false, false, false, false, false, false] HT_.out ?_
            refine un_ 19 53 #[true, true, true, true, true, true, true, true, true, true, true, true, true, true, true, true, true, true, true, true, false, false, false, false, false, false, false, false] HT_.out ?_
            refine un_ 20 54 #[true, true, true, true, true, true, true, true, true, true, true, true, true, true, true, true, true, true, true, true, true, false, false, false, false, false, false, false] HT_.out ?_
            refine un_ 21 55 #[true, true, true, true, true, true, true, true, true, true, true, true, true, true, true, true, true, true, true, true, true, true, false, false, false, false, false, false] HT_.out ?_
            refine un_ 22 56 z4_34 HT_.out ?_
            refine un_ 23 57 z4_35 HT_.out ?_
            refine un_ 24 58 z4_36 HT_.out ?_
            refine un_ 25 59 z4_37 HT_.out ?_
            refine un_ 26 60 z4_38 HT_.out ?_
            refine pu_ 27 61 z4_39 HT_.out ?_
            refine done_ (done_of HT_.out (by kernel_rfl)) ?_
            try go_wp2
            go_ret
            exact ⟨by first | rfl | (simp [errW_none, errW_some] <;> rfl) | (simp [*, errW_none, errW_some] <;> rfl), by repeat (first | (with_reducible first | exact HB.out | apply below_alloc | apply pw_below_drewN | apply below_drew1 | refine below_set ?_ GE278.out | refine below_set ?_ GE283.out) | exact HB.out)⟩
          ·rw [if_neg c39] at H
           exact absurd H (by simp)
         ·rw [if_neg c38] at H
          exact absurd H (by simp)
        ·rw [if_neg c37] at H
         have c37b0 : decide (x5_2 < (t275.length : Int)) = false := decide_eq_false c37
         clear c37
         replace H := Option.bind_eq_some_iff.mp H
         obtain ⟨t299, A510, H⟩ := H
         replace H : (if t299 = true then ((impl_NetBack.f k2 t279 t280).bind fun bt300 => ((laws_wkNet.f k2 bt300.1 bt300.2 t274 t275).bind fun t304 => (some t304))) else (some false)) = some r := H
         have A51 := Aside0.mk A510
         clear A510
         by_cases c52 : t299 = true
         ·subst c52
          have H1 : ((impl_NetBack.f k2 t279 t280).bind fun bt300 => ((laws_wkNet.f k2 bt300.1 bt300.2 t274 t275).bind fun t304 => (some t304))) = some r := by rw [if_pos rfl] at H; exact H
          clear H
          have H := H1
          clear H1
          replace H := Option.bind_eq_some_iff.mp H
          obtain ⟨⟨t300, t301⟩, A530, H⟩ := H
          replace H : ((laws_wkNet.f k2 t300 t301 t274 t275).bind fun t304 => (some t304)) = some r := H
          have A53 := Aside0.mk A530
          clear A530
          replace H := Option.bind_eq_some_iff.mp H
          obtain ⟨t304, A540, H⟩ := H
          replace H : (some t304) = some r := H
          have A54 := Aside0.mk A540
          clear A540
          obtain rfl := Option.some.inj H
          have hnb55 := NB278_283.out
          have hnc55 := NB283_278.out
          have hcz56_0 : wr.cell? ⟨gb278, 0, none⟩ = some (.int .i64 t274) := (bC4 BK278.out 0).trans rfl
          have hcz56_1 : wr.cell? ⟨gb278, 1, none⟩ = some (.slice Ao9 t275.length co9) := (bC4 BK278.out 1).trans rfl
          have hfz56_0 := blk_frozen BK278.out 0
          have hfz56_1 := blk_frozen BK278.out 1
          try go_wp2
          have n0_ := Aside0.mk (Kd.R_drew HO_279001.out)
          have n1_ := Aside0.mk (Kd.R_drew HO_284001.out)
          have n2_ := Aside0.mk (blk_drew BK278.out)
          have n3_ := Aside0.mk (blk_drew BK283.out)
          have n4_ := Aside0.mk (below_drew1 HB.out)
          clear HO_279001
          clear HO_284001
          clear BK278
          clear BK283
          clear HB
          have HO_279001 := n0_
          have HO_284001 := n1_
          have BK278 := n2_
          have BK283 := n3_
          have HB := n4_
          clear n0_ n1_ n2_ n3_ n4_
          refine start_ (n := 9) (S := fun w' => w'.cell? ⟨gb283, 0, none⟩ = some (.int .i64 t279) ∧ w'.cell? ⟨gb283, 1, none⟩ = some (.slice Ao14 t280.length co14) ∧ w'.cell? ⟨gb278, 0, none⟩ = some (.int .i64 t274) ∧ w'.cell? ⟨gb278, 1, none⟩ = some (.slice Ao9 t275.length co9)) (ds := []) z4_40 (by kernel_rfl) rfl rfl ⟨(bC4 BK283.out 0).trans rfl, (bC4 BK283.out 1).trans rfl, (bC4 BK278.out 0).trans rfl, (bC4 BK278.out 1).trans rfl⟩ (fun hHeld => ?_); refine with_tabW laws_FnNetBack.tab12 laws_FnNetBack.bits12 (fun HT_ HW_ => ?_)
          generalize wr.drew = w57 at HO_279001 HO_284001 BK278 BK283 HB hHeld ⊢
          refine tk_ 0 62 z4_41 HT_.out HW_.out hHeld ?_
          refine one_ (i := 1) (N := some 63) z4_42 rfl rfl (one_of HT_.out (by kernel_rfl)) (by decide) (fun K hK => ?_)
          refine goes_ Try.func22 (by kernel_rfl) rfl #[.agg #[.int .i64 t279, .slice Ao14 t280.length co14]] (by rfl) rfl rfl na_ ?_
          with_reducible refine (impl_NetOk.calls t279 _ _ t280 true _ ?side1 ?side2 A51.out).mono ?_
          (case side1 => exact nc_ (rR4 HO_284001.out).2.2)
          (case side2 => exact (rR4 HO_284001.out).2.1)
          rintro e w58 ⟨rfl, hb⟩
          refine ⟨_, rfl, ?_⟩
          have n0_ := Aside0.mk (Kd.R_below (nr_ HO_279001.out) hb)
          have n1_ := Aside0.mk (Kd.R_below (nr_ HO_284001.out) hb)
          have n2_ := Aside0.mk (blk_below (g := gb278) (o := .cells #[.int .i64 t274, .slice Ao9 t275.length co9] 29 (0, 0)) (nb_ BK278.out) hb)
          have n3_ := Aside0.mk (blk_below (g := gb283) (o := .cells #[.int .i64 t279, .slice Ao14 t280.length co14] 29 (0, 0)) (nb_ BK283.out) hb)
          have n4_ := Aside0.mk (below_step (ne_ HB.out) hb)
          clear HO_279001
          clear HO_284001
          clear BK278
          clear BK283
          clear HB
          have HO_279001 := n0_
          have HO_284001 := n1_
          have BK278 := n2_
          have BK283 := n3_
          have HB := n4_
          clear n0_ n1_ n2_ n3_ n4_
          (try clear hb)
          (try clear hb2)
          (try clear hk)
          (try clear hi)
          refine hK.out _ _ ⟨(bC4 BK283.out 0).trans rfl, (bC4 BK283.out 1).trans rfl, (bC4 BK278.out 0).trans rfl, (bC4 BK278.out 1).trans rfl⟩ (fun hHeld => ?_)
          clear hK K
          refine norm_ (a' := ?_) ?_ ?_
          rotate_left
          ·show Act.put _ (some 63) _ = _
           simp only [Act.put, List.setIfInBounds_toArray, List.set_cons_zero, List.set_cons_succ, i64_w, i32_w]
           rfl
          refine pu_ 2 64 z4_43 HT_.out ?_
          refine tk_ 3 65 z4_44 HT_.out HW_.out hHeld ?_
          refine tk_ 5 67 #[true, true, true, true, false, true, false, false, false] HT_.out HW_.out hHeld ?_
          refine one_ (i := 4) (N := some 66) z4_45 rfl rfl (one_of HT_.out (by kernel_rfl)) (by decide) (fun K hK => ?_)
          refine goes_ Try.func25 (by kernel_rfl) rfl #[.agg #[.int .i64 t279, .slice Ao14 t280.length co14]] (by rfl) rfl rfl na_ ?_
          with_reducible refine (impl_NetBack.calls k2 t279 _ _ t280 t300 t301 _ ?side1 ?side2 A53.out).mono ?_
          (case side1 => exact nc_ (rR4 HO_284001.out).2.2)
          (case side2 => exact (rR4 HO_284001.out).2.1)
          rintro e w59 ⟨v302, rfl, ho0, hb⟩
          refine ⟨_, rfl, ?_⟩
          have n0_ := Aside0.mk (Kd.R_elder' (nr_ HO_279001.out) (Kd.R_base ho0) hb)
          have n1_ := Aside0.mk (Kd.R_elder' (nr_ HO_284001.out) (Kd.R_base ho0) hb)
          have n2_ := Aside0.mk (Kd.R_lower (Kd.R_new' (Kd.R_new' ho0 (Kd.R_lt (nr_ HO_279001.out))) (Kd.R_lt (nr_ HO_284001.out))) (below_size (ne_ HB.out)))
          have n3_ := Aside0.mk (blk_below (g := gb278) (o := .cells #[.int .i64 t274, .slice Ao9 t275.length co9] 29 (0, 0)) (nb_ BK278.out) hb)
          have n4_ := Aside0.mk (blk_below (g := gb283) (o := .cells #[.int .i64 t279, .slice Ao14 t280.length co14] 29 (0, 0)) (nb_ BK283.out) hb)
          have n5_ := Aside0.mk (below_step (ne_ HB.out) hb)
          clear HO_279001
          clear HO_284001
          clear BK278
          clear BK283
          clear HB
          have HO_279001 := n0_
          have HO_284001 := n1_
          have HO303 := n2_
          have BK278 := n3_
          have BK283 := n4_
          have HB := n5_
          clear n0_ n1_ n2_ n3_ n4_ n5_
          (try clear hb)
          (try clear hb2)
          (try clear hk)
          (try clear hi)
          (try clear ho0)
          obtain ⟨Ao60, co60, eo60⟩ := Kd.R_slice HO303.out
          (first | subst eo60 | (injection eo60 with f1_ f2_ f3_; have f4_ := f1_.symm; have f5_ := f3_.symm; clear f1_ f2_ f3_; subst f4_; subst f5_))
          refine hK.out _ _ ⟨(bC4 BK283.out 0).trans rfl, (bC4 BK283.out 1).trans rfl, (bC4 BK278.out 0).trans rfl, (bC4 BK278.out 1).trans rfl⟩ (fun hHeld => ?_)
          clear hK K
          refine norm_ (a' := ?_) ?_ ?_
          rotate_left
          ·show Act.put _ (some 66) _ = _
           simp only [Act.put, List.setIfInBounds_toArray, List.set_cons_zero, List.set_cons_succ, i64_w, i32_w]
           rfl
          refine one_ (i := 6) (N := some 68) z4_46 rfl rfl (one_of HT_.out (by kernel_rfl)) (by decide) (fun K hK => ?_)
          refine goes_ Try.func26 (by kernel_rfl) rfl #[.agg #[.int .i64 t300, .slice Ao60 t301.length co60], .agg #[.int .i64 t274, .slice Ao9 t275.length co9]] (by rfl) rfl rfl na_ ?_
          with_reducible refine (laws_wkNet.calls k2 t300 _ _ t301 t274 _ _ t275 t304 _ ?side1 ?side2 ?side3 ?side4 A54.out).mono ?_
          (case side1 => exact nc_ (rR4 HO303.out).2.2)
          (case side2 => exact (rR4 HO303.out).2.1)
          (case side3 => exact nc_ (rR4 HO_279001.out).2.2)
          (case side4 => exact (rR4 HO_279001.out).2.1)
          rintro e w61 ⟨rfl, hb⟩
          refine ⟨_, rfl, ?_⟩
          have n0_ := Aside0.mk (Kd.R_below (nr_ HO_279001.out) hb)
          have n1_ := Aside0.mk (Kd.R_below (nr_ HO_284001.out) hb)
          have n2_ := Aside0.mk (Kd.R_below (nr_ HO303.out) hb)
          have n3_ := Aside0.mk (blk_below (g := gb278) (o := .cells #[.int .i64 t274, .slice Ao9 t275.length co9] 29 (0, 0)) (nb_ BK278.out) hb)
          have n4_ := Aside0.mk (blk_below (g := gb283) (o := .cells #[.int .i64 t279, .slice Ao14 t280.length co14] 29 (0, 0)) (nb_ BK283.out) hb)
          have n5_ := Aside0.mk (below_step (ne_ HB.out) hb)
          clear HO_279001
          clear HO_284001
          clear HO303
          clear BK278
          clear BK283
          clear HB
          have HO_279001 := n0_
          have HO_284001 := n1_
          have HO303 := n2_
          have BK278 := n3_
          have BK283 := n4_
          have HB := n5_
          clear n0_ n1_ n2_ n3_ n4_ n5_
          (try clear hb)
          (try clear hb2)
          (try clear hk)
          (try clear hi)
          refine hK.out _ _ ⟨(bC4 BK283.out 0).trans rfl, (bC4 BK283.out 1).trans rfl, (bC4 BK278.out 0).trans rfl, (bC4 BK278.out 1).trans rfl⟩ (fun hHeld => ?_)
          clear hK K
          refine norm_ (a' := ?_) ?_ ?_
          rotate_left
          ·show Act.put _ (some 68) _ = _
           simp only [Act.put, List.setIfInBounds_toArray, List.set_cons_zero, List.set_cons_succ, i64_w, i32_w]
           rfl
          refine pu_ 7 69 z4_47 HT_.out ?_
          refine pu_ 8 2 z4_48 HT_.out ?_
          refine done_ (done_of HT_.out (by kernel_rfl)) ?_
          try go_wp2
          go_ret
          exact ⟨by first | rfl | (simp [errW_none, errW_some] <;> rfl) | (simp [*, errW_none, errW_some] <;> rfl), by repeat (first | (with_reducible first | exact HB.out | apply below_alloc | apply pw_below_drewN | apply below_drew1 | refine below_set ?_ GE278.out | refine below_set ?_ GE283.out) | exact HB.out)⟩
         ·replace c52 := Bool.eq_false_iff.mpr c52
          subst c52
          have H1 : (some false) = some r := by rw [if_neg (show ¬ (false = true) by decide)] at H; exact H
          clear H
          have H := H1
          clear H1
          obtain rfl := Option.some.inj H
          have hnb62 := NB278_283.out
          have hnc62 := NB283_278.out
          have hcz63_0 : wr.cell? ⟨gb278, 0, none⟩ = some (.int .i64 t274) := (bC4 BK278.out 0).trans rfl
          have hcz63_1 : wr.cell? ⟨gb278, 1, none⟩ = some (.slice Ao9 t275.length co9) := (bC4 BK278.out 1).trans rfl
          have hfz63_0 := blk_frozen BK278.out 0
          have hfz63_1 := blk_frozen BK278.out 1
          try go_wp2
          have n0_ := Aside0.mk (Kd.R_drew HO_279001.out)
          have n1_ := Aside0.mk (Kd.R_drew HO_284001.out)
          have n2_ := Aside0.mk (blk_drew BK278.out)
          have n3_ := Aside0.mk (blk_drew BK283.out)
          have n4_ := Aside0.mk (below_drew1 HB.out)
          clear HO_279001
          clear HO_284001
          clear BK278
          clear BK283
          clear HB
          have HO_279001 := n0_
          have HO_284001 := n1_
          have BK278 := n2_
          have BK283 := n3_
          have HB := n4_
          clear n0_ n1_ n2_ n3_ n4_
          refine start_ (n := 9) (S := fun w' => w'.cell? ⟨gb283, 0, none⟩ = some (.int .i64 t279) ∧ w'.cell? ⟨gb283, 1, none⟩ = some (.slice Ao14 t280.length co14)) (ds := []) z4_40 (by kernel_rfl) rfl rfl ⟨(bC4 BK283.out 0).trans rfl, (bC4 BK283.out 1).trans rfl⟩ (fun hHeld => ?_); refine with_tabW laws_FnNetBack.tab12 laws_FnNetBack.bits12 (fun HT_ HW_ => ?_)
          generalize wr.drew = w64 at HO_279001 HO_284001 BK278 BK283 HB hHeld ⊢
          refine tk_ 0 62 z4_41 HT_.out HW_.out hHeld ?_
          refine one_ (i := 1) (N := some 63) z4_42 rfl rfl (one_of HT_.out (by kernel_rfl)) (by decide) (fun K hK => ?_)
          refine goes_ Try.func22 (by kernel_rfl) rfl #[.agg #[.int .i64 t279, .slice Ao14 t280.length co14]] (by rfl) rfl rfl na_ ?_
          with_reducible refine (impl_NetOk.calls t279 _ _ t280 false _ ?side1 ?side2 A51.out).mono ?_
          (case side1 => exact nc_ (rR4 HO_284001.out).2.2)
          (case side2 => exact (rR4 HO_284001.out).2.1)
          rintro e w65 ⟨rfl, hb⟩
          refine ⟨_, rfl, ?_⟩
          have n0_ := Aside0.mk (Kd.R_below (nr_ HO_279001.out) hb)
          have n1_ := Aside0.mk (Kd.R_below (nr_ HO_284001.out) hb)
          have n2_ := Aside0.mk (blk_below (g := gb278) (o := .cells #[.int .i64 t274, .slice Ao9 t275.length co9] 29 (0, 0)) (nb_ BK278.out) hb)
          have n3_ := Aside0.mk (blk_below (g := gb283) (o := .cells #[.int .i64 t279, .slice Ao14 t280.length co14] 29 (0, 0)) (nb_ BK283.out) hb)
          have n4_ := Aside0.mk (below_step (ne_ HB.out) hb)
          clear HO_279001
          clear HO_284001
          clear BK278
          clear BK283
          clear HB
          have HO_279001 := n0_
          have HO_284001 := n1_
          have BK278 := n2_
          have BK283 := n3_
          have HB := n4_
          clear n0_ n1_ n2_ n3_ n4_
          (try clear hb)
          (try clear hb2)
          (try clear hk)
          (try clear hi)
          refine hK.out _ _ ⟨(bC4 BK283.out 0).trans rfl, (bC4 BK283.out 1).trans rfl⟩ (fun hHeld => ?_)
          clear hK K
          refine norm_ (a' := ?_) ?_ ?_
          rotate_left
          ·show Act.put _ (some 63) _ = _
           simp only [Act.put, List.setIfInBounds_toArray, List.set_cons_zero, List.set_cons_succ, i64_w, i32_w]
           rfl
          refine pu_ 2 64 z4_43 HT_.out ?_
          refine un_ 3 65 z4_44 HT_.out ?_
          refine un_ 4 66 #[true, true, true, true, true, false, false, false, false] HT_.out ?_
          refine un_ 5 67 z4_45 HT_.out ?_
          refine un_ 6 68 z4_46 HT_.out ?_
          refine pu_ 7 69 z4_47 HT_.out ?_
          refine pu_ 8 2 z4_48 HT_.out ?_
          refine done_ (done_of HT_.out (by kernel_rfl)) ?_
          try go_wp2
          go_ret
          exact ⟨by first | rfl | (simp [errW_none, errW_some] <;> rfl) | (simp [*, errW_none, errW_some] <;> rfl), by repeat (first | (with_reducible first | exact HB.out | apply below_alloc | apply pw_below_drewN | apply below_drew1 | refine below_set ?_ GE278.out | refine below_set ?_ GE283.out) | exact HB.out)⟩

/-- THE ONE PURE STATEMENT of laws_FnNetBack: yours. -/
def laws_FnNetBack.Pure : Prop := ∀ (l0 : List Int), l0.length ≤ maxLen → l0.length * 1 ≤ 140737488351232 → (∀ x ∈ l0, (Lit.int .u8 x).wf = true) → ∃ k, laws_FnNetBack.f k l0 = some true
theorem laws_FnNetBack.walk (P : laws_FnNetBack.Pure) (a0 : Option Addr) (len0 cap0 : Nat) (z0 : List Int) (w : World) (w0 : (a0 = none ∧ len0 = 0 ∧ cap0 = 0 ∧ z0 = []) ∨ ∃ x, a0 = some x ∧ len0 ≤ cap0 ∧ cap0 ≤ maxLen ∧ z0.length = cap0 ∧ (∀ i, i < z0.length → w.cell? (x.add i) = some (.int .u8 (z0.getD i 0))) ∧ ∀ n ∈ z0, (Lit.int .u8 n).wf = true) (y0 : len0 * 1 ≤ 140737488351232) :
    Calls Try.prog 4 #[.slice a0 len0 cap0] w fun e w' => e = .returned (.bool true) ∧ Below w.heap.size w w' := by
  obtain ⟨l0, rfl, hr0, hm0, hw0, hc0⟩ := ReadsInt.ofRowC w0
  obtain ⟨k, h⟩ := P l0 hm0 y0 hw0
  refine (laws_FnNetBack.calls k _ _ l0 true w (Kd.C_of_reads (d := (0 : Int)) (h1 := fun _ => rfl) hr0) hc0 h).mono ?_
  rintro e w' ⟨rfl, hd⟩
  exact ⟨rfl, hd⟩

end Go.Proofs.Ytpjmkghmjpbldaa.Print
