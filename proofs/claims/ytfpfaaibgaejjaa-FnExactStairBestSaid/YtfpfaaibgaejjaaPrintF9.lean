-- Made by this session's own program (wip/patch_print.py, over the kit's print). Lean checks it.
import Derived.Test.YtfpfaaibgaejjaaPrint0
import Derived.Test.YtfpfaaibgaejjaaPrintB
import Derived.Test.YtfpfaaibgaejjaaPrintF13
import Derived.Test.YtfpfaaibgaejjaaPrintF14
import Derived.Test.YtfpfaaibgaejjaaPrintF27
import Derived.Test.YtfpfaaibgaejjaaPrintF28
namespace Go.Proofs.Ytfpfaaibgaejjaa.Print
open Go.RowKit Go.Proofs.YtfpfaaibgaejjaaW.PrintWords Go.Proofs.YtfpfaaibgaejjaaW.PrintLast Go.Proofs.YtfpfaaibgaejjaaW.PrintMore Go.Proofs.YtfpfaaibgaejjaaX
attribute [local go_sem] max2_int min2_int max_two min_two max_three min_three max_four min_four   -- for this text's walks alone
set_option linter.unusedVariables false
set_option linter.unusedSimpArgs false

abbrev rR9 := @Kd.R_reads'
/-! ### laws_FnExactStairBest: function 9 -/
mutual
def laws_FnExactStairBest.j0 : Nat → List (S49) → List (S49) → List (S36) → Bool → List (S36) → List (S36) → List (S36) → Bool → Bool → Option (Bool)
  | 0, _, _, _, _, _, _, _, _, _ => none
  | k + 1, x0, x1, x6, x7, x8, x9, x10, x11, x53 => if x53 = true then (some false) else ((laws_toStepS.f k x0).bind fun t581 => ((laws_eqStepS.f k x8 t581).bind fun t584 => (if t584 = true then ((laws_toStepS.f k x1).bind fun t585 => ((laws_eqStepS.f k x9 t585).bind fun t588 => (if t588 = true then ((laws_markStepS.f k x8 1).bind fun bt589 => ((laws_markStepS.f k x9 bt589.1).bind fun bt591 => (if bt591.1 < 0 then (laws_FnExactStairBest.j1 k x0 x1 x6 x7 x10 true) else ((laws_eqStepS.f k x10 x6).bind fun t593 => (if t593 = true then (laws_FnExactStairBest.j1 k x0 x1 x6 x7 x10 (x11 != x7)) else (laws_FnExactStairBest.j1 k x0 x1 x6 x7 x10 true)))))) else (some false)))) else (some false))))
def laws_FnExactStairBest.j1 : Nat → List (S49) → List (S49) → List (S36) → Bool → List (S36) → Bool → Option (Bool)
  | 0, _, _, _, _, _, _ => none
  | k + 1, x0, x1, x6, x7, x10, x82 => if x82 = true then (some false) else ((laws_markStepS.f k x10 1).bind fun bt594 => ((laws_heldStepS.f k bt594.2 1).bind fun t596 => (if t596 < 0 then (some false) else (if t596 = bt594.1 then ((laws_toStepS.f k x0).bind fun t597 => ((laws_toStepS.f k x1).bind fun t600 => ((impl_StairBest.f k t597 t600).bind fun bt603 => ((laws_eqStepS.f k bt603.1 x6).bind fun t607 => (if t607 = true then (laws_FnExactStairBest.j2 k bt594.2 bt594.1 (bt603.2 != x7)) else (laws_FnExactStairBest.j2 k bt594.2 bt594.1 true)))))) else (some false)))))
def laws_FnExactStairBest.j2 : Nat → List (S36) → Int → Bool → Option (Bool)
  | 0, _, _, _ => none
  | k + 1, x10, x13, x110 => if x110 = true then (some false) else ((laws_heldStepS.f k x10 1).bind fun t608 => (if t608 < 0 then (some false) else (if t608 = x13 then (some true) else (some false))))
end
def laws_FnExactStairBest.f (k : Nat) (l0 : List (S49)) (l1 : List (S49)) : Option (Bool) := (laws_szStepS.f l0 1048576).bind fun t558 => (if t558 < 0 then (some true) else ((laws_szStepS.f l1 t558).bind fun t559 => (if t559 < 0 then (some true) else ((laws_toStepS.f k l0).bind fun t560 => ((laws_toStepS.f k l1).bind fun t563 => ((spec_StairBest.f k t560 t563).bind fun bt566 => ((laws_toStepS.f k l0).bind fun t570 => ((laws_toStepS.f k l1).bind fun t573 => ((impl_StairBest.f k t570 t573).bind fun bt576 => ((laws_eqStepS.f k bt576.1 bt566.1).bind fun t580 => (if t580 = true then (laws_FnExactStairBest.j0 k l0 l1 bt566.1 bt566.2 t570 t573 bt576.1 bt576.2 (bt576.2 != bt566.2)) else (laws_FnExactStairBest.j0 k l0 l1 bt566.1 bt566.2 t570 t573 bt576.1 bt576.2 true))))))))))))
theorem laws_FnExactStairBest.mono_l : ∀ k, (∀ y0 y1 y2 y3 y4 y5 y6 y7 y8, LeO (laws_FnExactStairBest.j0 k y0 y1 y2 y3 y4 y5 y6 y7 y8) (laws_FnExactStairBest.j0 (k + 1) y0 y1 y2 y3 y4 y5 y6 y7 y8)) ∧ (∀ y0 y1 y2 y3 y4 y5, LeO (laws_FnExactStairBest.j1 k y0 y1 y2 y3 y4 y5) (laws_FnExactStairBest.j1 (k + 1) y0 y1 y2 y3 y4 y5)) ∧ (∀ y0 y1 y2, LeO (laws_FnExactStairBest.j2 k y0 y1 y2) (laws_FnExactStairBest.j2 (k + 1) y0 y1 y2))
  | 0 => ⟨fun _ _ _ _ _ _ _ _ _ r h => by simp [laws_FnExactStairBest.j0] at h, fun _ _ _ _ _ _ r h => by simp [laws_FnExactStairBest.j1] at h, fun _ _ _ r h => by simp [laws_FnExactStairBest.j2] at h⟩
  | k + 1 => by
    obtain ⟨ih0, ih1, ih2⟩ := laws_FnExactStairBest.mono_l k
    refine ⟨?_, ?_, ?_⟩
    · intro y0 y1 y2 y3 y4 y5 y6 y7 y8
      unfold laws_FnExactStairBest.j0
      repeat' first | (with_reducible first | exact ih0 _ _ _ _ _ _ _ _ _ | exact ih1 _ _ _ _ _ _ | exact ih2 _ _ _ | exact impl_StairBest.mono _ _ _ | exact laws_eqStepS.mono _ _ _ | exact laws_heldStepS.mono _ _ _ | exact laws_markStepS.mono _ _ _ | exact laws_toStepS.mono _ _ | exact spec_StairBest.mono _ _ _ | exact LeO.refl _ | exact LeO.none _ | refine LeO.ite ?_ ?_ | refine LeO.bind ?_ (fun _ => ?_)) | exact ih0 _ _ _ _ _ _ _ _ _ | exact ih1 _ _ _ _ _ _ | exact ih2 _ _ _ | exact impl_StairBest.mono _ _ _ | exact laws_eqStepS.mono _ _ _ | exact laws_heldStepS.mono _ _ _ | exact laws_markStepS.mono _ _ _ | exact laws_toStepS.mono _ _ | exact spec_StairBest.mono _ _ _ | exact LeO.none _ | refine LeO.ite ?_ ?_ | refine LeO.bind ?_ (fun _ => ?_)
    · intro y0 y1 y2 y3 y4 y5
      unfold laws_FnExactStairBest.j1
      repeat' first | (with_reducible first | exact ih0 _ _ _ _ _ _ _ _ _ | exact ih1 _ _ _ _ _ _ | exact ih2 _ _ _ | exact impl_StairBest.mono _ _ _ | exact laws_eqStepS.mono _ _ _ | exact laws_heldStepS.mono _ _ _ | exact laws_markStepS.mono _ _ _ | exact laws_toStepS.mono _ _ | exact spec_StairBest.mono _ _ _ | exact LeO.refl _ | exact LeO.none _ | refine LeO.ite ?_ ?_ | refine LeO.bind ?_ (fun _ => ?_)) | exact ih0 _ _ _ _ _ _ _ _ _ | exact ih1 _ _ _ _ _ _ | exact ih2 _ _ _ | exact impl_StairBest.mono _ _ _ | exact laws_eqStepS.mono _ _ _ | exact laws_heldStepS.mono _ _ _ | exact laws_markStepS.mono _ _ _ | exact laws_toStepS.mono _ _ | exact spec_StairBest.mono _ _ _ | exact LeO.none _ | refine LeO.ite ?_ ?_ | refine LeO.bind ?_ (fun _ => ?_)
    · intro y0 y1 y2
      unfold laws_FnExactStairBest.j2
      repeat' first | (with_reducible first | exact ih0 _ _ _ _ _ _ _ _ _ | exact ih1 _ _ _ _ _ _ | exact ih2 _ _ _ | exact impl_StairBest.mono _ _ _ | exact laws_eqStepS.mono _ _ _ | exact laws_heldStepS.mono _ _ _ | exact laws_markStepS.mono _ _ _ | exact laws_toStepS.mono _ _ | exact spec_StairBest.mono _ _ _ | exact LeO.refl _ | exact LeO.none _ | refine LeO.ite ?_ ?_ | refine LeO.bind ?_ (fun _ => ?_)) | exact ih0 _ _ _ _ _ _ _ _ _ | exact ih1 _ _ _ _ _ _ | exact ih2 _ _ _ | exact impl_StairBest.mono _ _ _ | exact laws_eqStepS.mono _ _ _ | exact laws_heldStepS.mono _ _ _ | exact laws_markStepS.mono _ _ _ | exact laws_toStepS.mono _ _ | exact spec_StairBest.mono _ _ _ | exact LeO.none _ | refine LeO.ite ?_ ?_ | refine LeO.bind ?_ (fun _ => ?_)
theorem laws_FnExactStairBest.mono : ∀ a0 a1 k, LeO (laws_FnExactStairBest.f k a0 a1) (laws_FnExactStairBest.f (k + 1) a0 a1) := by
  intro a0 a1 k
  obtain ⟨ih0, ih1, ih2⟩ := laws_FnExactStairBest.mono_l k
  unfold laws_FnExactStairBest.f
  repeat' first | (with_reducible first | exact ih0 _ _ _ _ _ _ _ _ _ | exact ih1 _ _ _ _ _ _ | exact ih2 _ _ _ | exact impl_StairBest.mono _ _ _ | exact laws_eqStepS.mono _ _ _ | exact laws_heldStepS.mono _ _ _ | exact laws_markStepS.mono _ _ _ | exact laws_toStepS.mono _ _ | exact spec_StairBest.mono _ _ _ | exact LeO.refl _ | exact LeO.none _ | refine LeO.ite ?_ ?_ | refine LeO.bind ?_ (fun _ => ?_)) | exact ih0 _ _ _ _ _ _ _ _ _ | exact ih1 _ _ _ _ _ _ | exact ih2 _ _ _ | exact impl_StairBest.mono _ _ _ | exact laws_eqStepS.mono _ _ _ | exact laws_heldStepS.mono _ _ _ | exact laws_markStepS.mono _ _ _ | exact laws_toStepS.mono _ _ | exact spec_StairBest.mono _ _ _ | exact LeO.none _ | refine LeO.ite ?_ ?_ | refine LeO.bind ?_ (fun _ => ?_)
set_option maxHeartbeats 200000000 in
set_option maxRecDepth 100000 in
theorem laws_FnExactStairBest.calls (k : Nat) (A0 : Option Addr) (c0 : Nat) (l0 : List (S49)) (A1 : Option Addr) (c1 : Nat) (l1 : List (S49)) (r : Bool) (w : World) (hr0 : Kd.C k49 w A0 l0.length l0) (hc0 : l0.length ≤ c0) (hr1 : Kd.C k49 w A1 l1.length l1) (hc1 : l1.length ≤ c1) (h : laws_FnExactStairBest.f k l0 l1 = some r) :
    Calls Try.prog 9 #[.slice A0 l0.length c0, .slice A1 l1.length c1] w fun e w' => e = .returned (.bool r) ∧ Below w.heap.size w w' := by
  have HR0 := Aside0.mk hr0
  have HC0 := Aside0.mk hc0
  clear hr0 hc0
  have HR1 := Aside0.mk hr1
  have HC1 := Aside0.mk hc1
  clear hr1 hc1
  have HB := Aside0.mk (Below.refl w.heap.size w)
  have H : ((laws_szStepS.f l0 1048576).bind fun t558 => (if t558 < 0 then (some true) else ((laws_szStepS.f l1 t558).bind fun t559 => (if t559 < 0 then (some true) else ((laws_toStepS.f k l0).bind fun t560 => ((laws_toStepS.f k l1).bind fun t563 => ((spec_StairBest.f k t560 t563).bind fun bt566 => ((laws_toStepS.f k l0).bind fun t570 => ((laws_toStepS.f k l1).bind fun t573 => ((impl_StairBest.f k t570 t573).bind fun bt576 => ((laws_eqStepS.f k bt576.1 bt566.1).bind fun t580 => (if t580 = true then (laws_FnExactStairBest.j0 k l0 l1 bt566.1 bt566.2 t570 t573 bt576.1 bt576.2 (bt576.2 != bt566.2)) else (laws_FnExactStairBest.j0 k l0 l1 bt566.1 bt566.2 t570 t573 bt576.1 bt576.2 true))))))))))))) = some r := h
  clear h
  replace H := Option.bind_eq_some_iff.mp H
  obtain ⟨t558, A30, H⟩ := H
  try dsimp only at H
  have A3 := Aside0.mk A30
  clear A30
  by_cases c4 : t558 < 0
  ·rw [if_pos c4] at H
   have c4b0 : decide (t558 < 0) = true := decide_eq_true c4
   clear c4
   obtain rfl := Option.some.inj H
   go_enter Try.func9, Try.ntmps9
   go_wp2_with (first | ((with_reducible refine gate_callee (f := 16) rfl ?_); refine gl_ (some 19) Try.func16 #[.slice A0 l0.length c0, .int .i64 1048576] ?_; (with_reducible refine (laws_szStepS.calls _ _ l0 1048576 t558 _ ?side1 ?side2 A3.out).mono ?_); (case side1 => repeat (first | exact HR0.out | (with_reducible refine Kd.C_alloc ?_ _) | (with_reducible refine Kd.C_drewN ?_ _) | (with_reducible refine Kd.C_drew ?_))); (case side2 => exact HC0.out); rintro e w' ⟨rfl, ⟨nd, rfl⟩⟩; refine ⟨_, rfl, ?_⟩))
   go_ret
   exact ⟨nw_, ne_ HB.out⟩
  rw [if_neg c4] at H
  have c4b0 : decide (t558 < 0) = false := decide_eq_false c4
  clear c4
  replace H := Option.bind_eq_some_iff.mp H
  obtain ⟨t559, A50, H⟩ := H
  try dsimp only at H
  have A5 := Aside0.mk A50
  clear A50
  by_cases c6 : t559 < 0
  ·rw [if_pos c6] at H
   have c6b0 : decide (t559 < 0) = true := decide_eq_true c6
   clear c6
   obtain rfl := Option.some.inj H
   go_enter Try.func9, Try.ntmps9
   go_wp2_with (first | ((with_reducible refine gate_callee (f := 16) rfl ?_); refine gl_ (some 19) Try.func16 #[.slice A0 l0.length c0, .int .i64 1048576] ?_; (with_reducible refine (laws_szStepS.calls _ _ l0 1048576 t558 _ ?side1 ?side2 A3.out).mono ?_); (case side1 => repeat (first | exact HR0.out | (with_reducible refine Kd.C_alloc ?_ _) | (with_reducible refine Kd.C_drewN ?_ _) | (with_reducible refine Kd.C_drew ?_))); (case side2 => exact HC0.out); rintro e w' ⟨rfl, ⟨nd, rfl⟩⟩; refine ⟨_, rfl, ?_⟩) | ((with_reducible refine gate_callee (f := 16) rfl ?_); refine gl_ (some 24) Try.func16 #[.slice A1 l1.length c1, .int .i64 t558] ?_; (with_reducible refine (laws_szStepS.calls _ _ l1 t558 t559 _ ?side1 ?side2 A5.out).mono ?_); (case side1 => repeat (first | exact HR1.out | (with_reducible refine Kd.C_alloc ?_ _) | (with_reducible refine Kd.C_drewN ?_ _) | (with_reducible refine Kd.C_drew ?_))); (case side2 => exact HC1.out); rintro e w' ⟨rfl, ⟨nd, rfl⟩⟩; refine ⟨_, rfl, ?_⟩))
   go_ret
   exact ⟨nw_, ne_ HB.out⟩
  rw [if_neg c6] at H
  have c6b0 : decide (t559 < 0) = false := decide_eq_false c6
  clear c6
  replace H := Option.bind_eq_some_iff.mp H
  obtain ⟨t560, A70, H⟩ := H
  try dsimp only at H
  have A7 := Aside0.mk A70
  clear A70
  replace H := Option.bind_eq_some_iff.mp H
  obtain ⟨t563, A80, H⟩ := H
  try dsimp only at H
  have A8 := Aside0.mk A80
  clear A80
  replace H := Option.bind_eq_some_iff.mp H
  obtain ⟨⟨t566, t567⟩, A90, H⟩ := H
  try dsimp only at H
  have A9 := Aside0.mk A90
  clear A90
  replace H := Option.bind_eq_some_iff.mp H
  obtain ⟨t570, A100, H⟩ := H
  try dsimp only at H
  have A10 := Aside0.mk A100
  clear A100
  replace H := Option.bind_eq_some_iff.mp H
  obtain ⟨t573, A110, H⟩ := H
  try dsimp only at H
  have A11 := Aside0.mk A110
  clear A110
  replace H := Option.bind_eq_some_iff.mp H
  obtain ⟨⟨t576, t579⟩, A120, H⟩ := H
  try dsimp only at H
  have A12 := Aside0.mk A120
  clear A120
  have HC13 := Aside0.mk H
  clear H
  go_enter Try.func9, Try.ntmps9
  go_upto_region 12 with (first | ((with_reducible refine gate_callee (f := 16) rfl ?_); refine gl_ (some 19) Try.func16 #[.slice A0 l0.length c0, .int .i64 1048576] ?_; (with_reducible refine (laws_szStepS.calls _ _ l0 1048576 t558 _ ?side1 ?side2 A3.out).mono ?_); (case side1 => repeat (first | exact HR0.out | (with_reducible refine Kd.C_alloc ?_ _) | (with_reducible refine Kd.C_drewN ?_ _) | (with_reducible refine Kd.C_drew ?_))); (case side2 => exact HC0.out); rintro e w' ⟨rfl, ⟨nd, rfl⟩⟩; refine ⟨_, rfl, ?_⟩) | ((with_reducible refine gate_callee (f := 16) rfl ?_); refine gl_ (some 24) Try.func16 #[.slice A1 l1.length c1, .int .i64 t558] ?_; (with_reducible refine (laws_szStepS.calls _ _ l1 t558 t559 _ ?side1 ?side2 A5.out).mono ?_); (case side1 => repeat (first | exact HR1.out | (with_reducible refine Kd.C_alloc ?_ _) | (with_reducible refine Kd.C_drewN ?_ _) | (with_reducible refine Kd.C_drew ?_))); (case side2 => exact HC1.out); rintro e w' ⟨rfl, ⟨nd, rfl⟩⟩; refine ⟨_, rfl, ?_⟩) | ((with_reducible refine gate_callee (f := 18) rfl ?_); refine gl_ (some 29) Try.func18 #[.slice A0 l0.length c0] ?_; (with_reducible refine (laws_toStepS.calls k _ _ l0 t560 _ ?side1 ?side2 A7.out).mono ?_); (case side1 => repeat (first | exact HR0.out | (with_reducible refine Kd.C_alloc ?_ _) | (with_reducible refine Kd.C_drewN ?_ _) | (with_reducible refine Kd.C_drew ?_))); (case side2 => exact HC0.out); rintro e w14 ⟨v561, rfl, ho0, hb⟩; refine ⟨_, rfl, ?_⟩; have HO562 := Aside0.mk (Kd.R_lower ho0 (below_size (ne_ HB.out))); replace HB := kB_ HB hb; (try clear hb); (try clear hb2); (try clear hk); (try clear hi); (try clear ho0)) | ((with_reducible refine gate_callee (f := 18) rfl ?_); refine gl_ (some 31) Try.func18 #[.slice A1 l1.length c1] ?_; (with_reducible refine (laws_toStepS.calls k _ _ l1 t563 _ ?side1 ?side2 A8.out).mono ?_); (case side1 => exact nc_ (Kd.C_below HR1.out HB.out)); (case side2 => exact HC1.out); rintro e w15 ⟨v564, rfl, ho0, hb⟩; refine ⟨_, rfl, ?_⟩; have HO565 := Aside0.mk (Kd.R_lower (Kd.R_new' ho0 (Kd.R_lt (nr_ HO562.out))) (below_size (ne_ HB.out))); replace HO562 := Aside0.mk (Kd.R_elder' (nr_ HO562.out) (Kd.R_base ho0) hb); replace HB := kB_ HB hb; (try clear hb); (try clear hb2); (try clear hk); (try clear hi); (try clear ho0); obtain ⟨Ao16, co16, eo16⟩ := Kd.R_slice HO562.out; subst eo16; obtain ⟨Ao17, co17, eo17⟩ := Kd.R_slice HO565.out; subst eo17) | ((with_reducible refine gate_callee (f := 27) rfl ?_); refine gl_ (some 32) Try.func27 #[.slice Ao16 t560.length co16, .slice Ao17 t563.length co17] ?_; (with_reducible refine (spec_StairBest.calls k _ _ t560 _ _ t563 t566 t567 _ ?side1 ?side2 ?side3 ?side4 A9.out).mono ?_); (case side1 => exact nc_ (rR9 HO562.out).2.2); (case side2 => exact (rR9 HO562.out).2.1); (case side3 => exact nc_ (rR9 HO565.out).2.2); (case side4 => exact (rR9 HO565.out).2.1); rintro e w18 ⟨v568, rfl, ho0, hb⟩; refine ⟨_, rfl, ?_⟩; have HO569 := Aside0.mk (Kd.R_lower (Kd.R_new' (Kd.R_new' ho0 (Kd.R_lt (nr_ HO562.out))) (Kd.R_lt (nr_ HO565.out))) (below_size (ne_ HB.out))); replace HO562 := Aside0.mk (Kd.R_elder' (nr_ HO562.out) (Kd.R_base ho0) hb); replace HO565 := Aside0.mk (Kd.R_elder' (nr_ HO565.out) (Kd.R_base ho0) hb); replace HB := kB_ HB hb; (try clear hb); (try clear hb2); (try clear hk); (try clear hi); (try clear ho0)) | ((with_reducible refine gate_callee (f := 18) rfl ?_); refine gl_ (some 36) Try.func18 #[.slice A0 l0.length c0] ?_; (with_reducible refine (laws_toStepS.calls k _ _ l0 t570 _ ?side1 ?side2 A10.out).mono ?_); (case side1 => exact nc_ (Kd.C_below HR0.out HB.out)); (case side2 => exact HC0.out); rintro e w19 ⟨v571, rfl, ho0, hb⟩; refine ⟨_, rfl, ?_⟩; have HO572 := Aside0.mk (Kd.R_lower (Kd.R_new' (Kd.R_new' (Kd.R_new' ho0 (Kd.R_lt (nr_ HO562.out))) (Kd.R_lt (nr_ HO565.out))) (Kd.R_lt (nr_ HO569.out))) (below_size (ne_ HB.out))); replace HO562 := Aside0.mk (Kd.R_elder' (nr_ HO562.out) (Kd.R_base ho0) hb); replace HO565 := Aside0.mk (Kd.R_elder' (nr_ HO565.out) (Kd.R_base ho0) hb); replace HO569 := Aside0.mk (Kd.R_elder' (nr_ HO569.out) (Kd.R_base ho0) hb); replace HB := kB_ HB hb; (try clear hb); (try clear hb2); (try clear hk); (try clear hi); (try clear ho0)) | ((with_reducible refine gate_callee (f := 18) rfl ?_); refine gl_ (some 38) Try.func18 #[.slice A1 l1.length c1] ?_; (with_reducible refine (laws_toStepS.calls k _ _ l1 t573 _ ?side1 ?side2 A11.out).mono ?_); (case side1 => exact nc_ (Kd.C_below HR1.out HB.out)); (case side2 => exact HC1.out); rintro e w20 ⟨v574, rfl, ho0, hb⟩; refine ⟨_, rfl, ?_⟩; have HO575 := Aside0.mk (Kd.R_lower (Kd.R_new' (Kd.R_new' (Kd.R_new' (Kd.R_new' ho0 (Kd.R_lt (nr_ HO562.out))) (Kd.R_lt (nr_ HO565.out))) (Kd.R_lt (nr_ HO569.out))) (Kd.R_lt (nr_ HO572.out))) (below_size (ne_ HB.out))); replace HO562 := Aside0.mk (Kd.R_elder' (nr_ HO562.out) (Kd.R_base ho0) hb); replace HO565 := Aside0.mk (Kd.R_elder' (nr_ HO565.out) (Kd.R_base ho0) hb); replace HO569 := Aside0.mk (Kd.R_elder' (nr_ HO569.out) (Kd.R_base ho0) hb); replace HO572 := Aside0.mk (Kd.R_elder' (nr_ HO572.out) (Kd.R_base ho0) hb); replace HB := kB_ HB hb; (try clear hb); (try clear hb2); (try clear hk); (try clear hi); (try clear ho0); obtain ⟨Ao21, co21, eo21⟩ := Kd.R_slice HO572.out; subst eo21; obtain ⟨Ao22, co22, eo22⟩ := Kd.R_slice HO575.out; subst eo22) | ((with_reducible refine gate_callee (f := 28) rfl ?_); refine gl_ (some 42) Try.func28 #[.slice Ao21 t570.length co21, .slice Ao22 t573.length co22] ?_; (with_reducible refine (impl_StairBest.calls k (fun k_ => some k_ = (.slice Ao21 t570.length co21 : Value).ownBlock) _ _ t570 (fun k_ => some k_ = (.slice Ao22 t573.length co22 : Value).ownBlock) _ _ t573 t576 t579 _ ?side1 ?side2 A12.out).mono ?_); (case side1 => exact Kd.R_V (Kd.R_tight rfl (HO572.out))); (case side2 => exact Kd.R_V (Kd.R_tight rfl (HO575.out))); rintro e w23 ⟨v577, rfl, ho0, hb⟩; refine ⟨_, rfl, ?_⟩; have HO578 := Aside0.mk (Kd.R_lower (Kd.R_new' (Kd.R_new' (Kd.R_new' (Kd.R_new' (Kd.R_new' (Kd.R_mono (ok' := fun k_ => True) ho0 (fun _ hk_ => trivial)) (Kd.R_lt (nr_ HO562.out))) (Kd.R_lt (nr_ HO565.out))) (Kd.R_lt (nr_ HO569.out))) (Kd.R_lt (nr_ HO572.out))) (Kd.R_lt (nr_ HO575.out))) (below_size (ne_ HB.out))); replace HO562 := Aside0.mk (Kd.R_elder' (nr_ HO562.out) (Kd.R_base ho0) hb); replace HO565 := Aside0.mk (Kd.R_elder' (nr_ HO565.out) (Kd.R_base ho0) hb); replace HO569 := Aside0.mk (Kd.R_elder' (nr_ HO569.out) (Kd.R_base ho0) hb); replace HO572 := Aside0.mk (Kd.R_elder' (nr_ HO572.out) (Kd.R_base ho0) hb); replace HO575 := Aside0.mk (Kd.R_elder' (nr_ HO575.out) (Kd.R_base ho0) hb); replace HB := kB_ HB hb; (try clear hb); (try clear hb2); (try clear hk); (try clear hi); (try clear ho0)))
  (try simp only [Act.put, List.setIfInBounds_toArray, List.set_cons_zero, List.set_cons_succ])
  go_cut [53] (fun v53 wc => ∃ (kq : Nat) (x53_12 : Bool), v53 = .bool x53_12 ∧ Aside0 (laws_FnExactStairBest.j0 kq l0 l1 t566 t567 t570 t573 t576 t579 x53_12 = some r) ∧ Aside0 (kq ≤ k) ∧ Aside0 (Kd.R k36 36 wc w.heap.size (fun k_ => some k_ ≠ ((.slice Ao21 t570.length co21) : Value).ownBlock ∧ some k_ ≠ ((.slice Ao22 t573.length co22) : Value).ownBlock ∧ some k_ ≠ (v577 : Value).ownBlock) v568 t566) ∧ Aside0 (Kd.R k36 36 wc w.heap.size (fun k_ => some k_ ≠ (v568 : Value).ownBlock ∧ some k_ ≠ ((.slice Ao22 t573.length co22) : Value).ownBlock ∧ some k_ ≠ (v577 : Value).ownBlock) (.slice Ao21 t570.length co21) t570) ∧ Aside0 (Kd.R k36 36 wc w.heap.size (fun k_ => some k_ ≠ (v568 : Value).ownBlock ∧ some k_ ≠ ((.slice Ao21 t570.length co21) : Value).ownBlock ∧ some k_ ≠ (v577 : Value).ownBlock) (.slice Ao22 t573.length co22) t573) ∧ Aside0 (Kd.R k36 36 wc w.heap.size (fun k_ => some k_ ≠ (v568 : Value).ownBlock ∧ some k_ ≠ ((.slice Ao21 t570.length co21) : Value).ownBlock ∧ some k_ ≠ ((.slice Ao22 t573.length co22) : Value).ownBlock) v577 t576) ∧ Aside0 (Below w.heap.size w wc))
  case first =>
   have H := HC13.out
   clear HC13
   replace H := Option.bind_eq_some_iff.mp H
   obtain ⟨t580, A240, H⟩ := H
   try dsimp only at H
   have A24 := Aside0.mk A240
   clear A240
   by_cases c25 : t580 = true
   ·subst c25
    rw [if_pos rfl] at H
    have H' := Aside0.mk H
    clear H
    obtain ⟨Ao26, co26, eo26⟩ := Kd.R_slice HO578.out
    subst eo26
    obtain ⟨Ao27, co27, eo27⟩ := Kd.R_slice HO569.out
    subst eo27
    go_wp2_with (first | ((with_reducible refine gate_callee (f := 13) rfl ?_); refine gl_ (some 47) Try.func13 #[.slice Ao26 t576.length co26, .slice Ao27 t566.length co27] ?_; (with_reducible refine (laws_eqStepS.calls k _ _ t576 _ _ t566 true _ ?side1 ?side2 ?side3 ?side4 A24.out).mono ?_); (case side1 => exact nc_ (rR9 HO578.out).2.2); (case side2 => exact (rR9 HO578.out).2.1); (case side3 => exact nc_ (rR9 HO569.out).2.2); (case side4 => exact (rR9 HO569.out).2.1); rintro e w28 ⟨rfl, hb⟩; refine ⟨_, rfl, ?_⟩; replace HO562 := kR_ HO562 hb; replace HO565 := kR_ HO565 hb; replace HO569 := kR_ HO569 hb; replace HO572 := kR_ HO572 hb; replace HO575 := kR_ HO575 hb; replace HO578 := kR_ HO578 hb; replace HB := kB_ HB hb; (try clear hb); (try clear hb2); (try clear hk); (try clear hi)))
    go_meet
    case rel => exact ⟨_, ((t579 != t567)), ns_, H', ⟨by first | omega | exact Nat.le_refl _⟩, ⟨by (with_reducible repeat (first | apply Kd.R_alloc | apply Kd.R_drewN | apply Kd.R_drew)); exact Kd.R_mono HO569.out (fun _ hk => by first | exact ⟨hk.1.1.2, ⟨hk.1.2, hk.2⟩⟩ | trivial | simp_all)⟩, ⟨by (with_reducible repeat (first | apply Kd.R_alloc | apply Kd.R_drewN | apply Kd.R_drew)); exact Kd.R_mono HO572.out (fun _ hk => by first | exact ⟨hk.1.1.2, ⟨hk.1.2, hk.2⟩⟩ | trivial | simp_all)⟩, ⟨by (with_reducible repeat (first | apply Kd.R_alloc | apply Kd.R_drewN | apply Kd.R_drew)); exact Kd.R_mono HO575.out (fun _ hk => by first | exact ⟨hk.1.1.2, ⟨hk.1.2, hk.2⟩⟩ | trivial | simp_all)⟩, ⟨by (with_reducible repeat (first | apply Kd.R_alloc | apply Kd.R_drewN | apply Kd.R_drew)); exact Kd.R_mono HO578.out (fun _ hk => by first | exact ⟨hk.1.1.2, ⟨hk.1.2, hk.2⟩⟩ | trivial | simp_all)⟩, ⟨ne_ HB.out⟩⟩
   replace c25 := Bool.eq_false_iff.mpr c25
   subst c25
   have H1 : (laws_FnExactStairBest.j0 k l0 l1 t566 t567 t570 t573 t576 t579 true) = some r := by rw [if_neg (show ¬ (false = true) by decide)] at H; exact H
   clear H
   have H := H1
   clear H1
   have H' := Aside0.mk H
   clear H
   obtain ⟨Ao29, co29, eo29⟩ := Kd.R_slice HO578.out
   subst eo29
   obtain ⟨Ao30, co30, eo30⟩ := Kd.R_slice HO569.out
   subst eo30
   go_wp2_with (first | ((with_reducible refine gate_callee (f := 13) rfl ?_); refine gl_ (some 47) Try.func13 #[.slice Ao29 t576.length co29, .slice Ao30 t566.length co30] ?_; (with_reducible refine (laws_eqStepS.calls k _ _ t576 _ _ t566 false _ ?side1 ?side2 ?side3 ?side4 A24.out).mono ?_); (case side1 => exact nc_ (rR9 HO578.out).2.2); (case side2 => exact (rR9 HO578.out).2.1); (case side3 => exact nc_ (rR9 HO569.out).2.2); (case side4 => exact (rR9 HO569.out).2.1); rintro e w31 ⟨rfl, hb⟩; refine ⟨_, rfl, ?_⟩; replace HO562 := kR_ HO562 hb; replace HO565 := kR_ HO565 hb; replace HO569 := kR_ HO569 hb; replace HO572 := kR_ HO572 hb; replace HO575 := kR_ HO575 hb; replace HO578 := kR_ HO578 hb; replace HB := kB_ HB hb; (try clear hb); (try clear hb2); (try clear hk); (try clear hi)))
   go_meet
   case rel => exact ⟨_, (true), ns_, H', ⟨by first | omega | exact Nat.le_refl _⟩, ⟨by (with_reducible repeat (first | apply Kd.R_alloc | apply Kd.R_drewN | apply Kd.R_drew)); exact Kd.R_mono HO569.out (fun _ hk => by first | exact ⟨hk.1.1.2, ⟨hk.1.2, hk.2⟩⟩ | trivial | simp_all)⟩, ⟨by (with_reducible repeat (first | apply Kd.R_alloc | apply Kd.R_drewN | apply Kd.R_drew)); exact Kd.R_mono HO572.out (fun _ hk => by first | exact ⟨hk.1.1.2, ⟨hk.1.2, hk.2⟩⟩ | trivial | simp_all)⟩, ⟨by (with_reducible repeat (first | apply Kd.R_alloc | apply Kd.R_drewN | apply Kd.R_drew)); exact Kd.R_mono HO575.out (fun _ hk => by first | exact ⟨hk.1.1.2, ⟨hk.1.2, hk.2⟩⟩ | trivial | simp_all)⟩, ⟨by (with_reducible repeat (first | apply Kd.R_alloc | apply Kd.R_drewN | apply Kd.R_drew)); exact Kd.R_mono HO578.out (fun _ hk => by first | exact ⟨hk.1.1.2, ⟨hk.1.2, hk.2⟩⟩ | trivial | simp_all)⟩, ⟨ne_ HB.out⟩⟩
  case rest =>
   clear HC13
   try clear c1
   try clear c4
   try clear c4b0
   try clear c6
   try clear c6b0
   obtain ⟨kq, x53_12, rfl, HA, HJ12, HO_6, HO_8, HO_9, HO_10, HB⟩ := hcut
   cases kq with
   | zero => exact absurd HA.out (by simp [laws_FnExactStairBest.j0])
   | succ kj12 =>
    have H := HA.out
    clear HA
    simp only [laws_FnExactStairBest.j0] at H
    by_cases c32 : x53_12 = true
    ·subst c32
     have H1 : (some false) = some r := by rw [if_pos rfl] at H; exact H
     clear H
     have H := H1
     clear H1
     obtain rfl := Option.some.inj H
     go_wp2
     go_ret
     exact ⟨nw_, ne_ HB.out⟩
    replace c32 := Bool.eq_false_iff.mpr c32
    subst c32
    have H1 : ((laws_toStepS.f kj12 l0).bind fun t581 => ((laws_eqStepS.f kj12 t570 t581).bind fun t584 => (if t584 = true then ((laws_toStepS.f kj12 l1).bind fun t585 => ((laws_eqStepS.f kj12 t573 t585).bind fun t588 => (if t588 = true then ((laws_markStepS.f kj12 t570 1).bind fun bt589 => ((laws_markStepS.f kj12 t573 bt589.1).bind fun bt591 => (if bt591.1 < 0 then (laws_FnExactStairBest.j1 kj12 l0 l1 t566 t567 t576 true) else ((laws_eqStepS.f kj12 t576 t566).bind fun t593 => (if t593 = true then (laws_FnExactStairBest.j1 kj12 l0 l1 t566 t567 t576 (t579 != t567)) else (laws_FnExactStairBest.j1 kj12 l0 l1 t566 t567 t576 true)))))) else (some false)))) else (some false)))) = some r := by rw [if_neg (show ¬ (false = true) by decide)] at H; exact H
    clear H
    have H := H1
    clear H1
    replace H := Option.bind_eq_some_iff.mp H
    obtain ⟨t581, A330, H⟩ := H
    try dsimp only at H
    have A33 := Aside0.mk A330
    clear A330
    replace H := Option.bind_eq_some_iff.mp H
    obtain ⟨t584, A340, H⟩ := H
    try dsimp only at H
    have A34 := Aside0.mk A340
    clear A340
    by_cases c35 : t584 = true
    rotate_left
    ·replace c35 := Bool.eq_false_iff.mpr c35
     subst c35
     have H1 : (some false) = some r := by rw [if_neg (show ¬ (false = true) by decide)] at H; exact H
     clear H
     have H := H1
     clear H1
     obtain rfl := Option.some.inj H
     go_wp2_with (first | ((with_reducible refine gate_callee (f := 18) rfl ?_); refine gl_ (some 56) Try.func18 #[.slice A0 l0.length c0] ?_; (with_reducible refine (laws_toStepS.calls kj12 _ _ l0 t581 _ ?side1 ?side2 A33.out).mono ?_); (case side1 => exact nc_ (Kd.C_below HR0.out HB.out)); (case side2 => exact HC0.out); rintro e w97 ⟨v582, rfl, ho0, hb⟩; refine ⟨_, rfl, ?_⟩; have HO583 := Aside0.mk (Kd.R_lower (Kd.R_new' (Kd.R_new' (Kd.R_new' (Kd.R_new' ho0 (Kd.R_lt (nr_ HO_6.out))) (Kd.R_lt (nr_ HO_8.out))) (Kd.R_lt (nr_ HO_9.out))) (Kd.R_lt (nr_ HO_10.out))) (below_size (ne_ HB.out))); replace HO_6 := Aside0.mk (Kd.R_elder' (nr_ HO_6.out) (Kd.R_base ho0) hb); replace HO_8 := Aside0.mk (Kd.R_elder' (nr_ HO_8.out) (Kd.R_base ho0) hb); replace HO_9 := Aside0.mk (Kd.R_elder' (nr_ HO_9.out) (Kd.R_base ho0) hb); replace HO_10 := Aside0.mk (Kd.R_elder' (nr_ HO_10.out) (Kd.R_base ho0) hb); replace HB := kB_ HB hb; (try clear hb); (try clear hb2); (try clear hk); (try clear hi); (try clear ho0); obtain ⟨Ao98, co98, eo98⟩ := Kd.R_slice HO583.out; subst eo98) | ((with_reducible refine gate_callee (f := 13) rfl ?_); refine gl_ (some 57) Try.func13 #[.slice Ao21 t570.length co21, .slice Ao98 t581.length co98] ?_; (with_reducible refine (laws_eqStepS.calls kj12 _ _ t570 _ _ t581 false _ ?side1 ?side2 ?side3 ?side4 A34.out).mono ?_); (case side1 => exact nc_ (rR9 HO_8.out).2.2); (case side2 => exact (rR9 HO_8.out).2.1); (case side3 => exact nc_ (rR9 HO583.out).2.2); (case side4 => exact (rR9 HO583.out).2.1); rintro e w99 ⟨rfl, hb⟩; refine ⟨_, rfl, ?_⟩; replace HO_6 := kR_ HO_6 hb; replace HO_8 := kR_ HO_8 hb; replace HO_9 := kR_ HO_9 hb; replace HO_10 := kR_ HO_10 hb; replace HO583 := kR_ HO583 hb; replace HB := kB_ HB hb; (try clear hb); (try clear hb2); (try clear hk); (try clear hi)))
     go_ret
     exact ⟨nw_, ne_ HB.out⟩

    subst c35
    rw [if_pos rfl] at H
    replace H := Option.bind_eq_some_iff.mp H
    obtain ⟨t585, A360, H⟩ := H
    try dsimp only at H
    have A36 := Aside0.mk A360
    clear A360
    replace H := Option.bind_eq_some_iff.mp H
    obtain ⟨t588, A370, H⟩ := H
    try dsimp only at H
    have A37 := Aside0.mk A370
    clear A370
    by_cases c38 : t588 = true
    rotate_left
    ·replace c38 := Bool.eq_false_iff.mpr c38
     subst c38
     have H1 : (some false) = some r := by rw [if_neg (show ¬ (false = true) by decide)] at H; exact H
     clear H
     have H := H1
     clear H1
     obtain rfl := Option.some.inj H
     go_wp2_with (first | ((with_reducible refine gate_callee (f := 18) rfl ?_); refine gl_ (some 56) Try.func18 #[.slice A0 l0.length c0] ?_; (with_reducible refine (laws_toStepS.calls kj12 _ _ l0 t581 _ ?side1 ?side2 A33.out).mono ?_); (case side1 => exact nc_ (Kd.C_below HR0.out HB.out)); (case side2 => exact HC0.out); rintro e w91 ⟨v582, rfl, ho0, hb⟩; refine ⟨_, rfl, ?_⟩; have HO583 := Aside0.mk (Kd.R_lower (Kd.R_new' (Kd.R_new' (Kd.R_new' (Kd.R_new' ho0 (Kd.R_lt (nr_ HO_6.out))) (Kd.R_lt (nr_ HO_8.out))) (Kd.R_lt (nr_ HO_9.out))) (Kd.R_lt (nr_ HO_10.out))) (below_size (ne_ HB.out))); replace HO_6 := Aside0.mk (Kd.R_elder' (nr_ HO_6.out) (Kd.R_base ho0) hb); replace HO_8 := Aside0.mk (Kd.R_elder' (nr_ HO_8.out) (Kd.R_base ho0) hb); replace HO_9 := Aside0.mk (Kd.R_elder' (nr_ HO_9.out) (Kd.R_base ho0) hb); replace HO_10 := Aside0.mk (Kd.R_elder' (nr_ HO_10.out) (Kd.R_base ho0) hb); replace HB := kB_ HB hb; (try clear hb); (try clear hb2); (try clear hk); (try clear hi); (try clear ho0); obtain ⟨Ao92, co92, eo92⟩ := Kd.R_slice HO583.out; subst eo92) | ((with_reducible refine gate_callee (f := 13) rfl ?_); refine gl_ (some 57) Try.func13 #[.slice Ao21 t570.length co21, .slice Ao92 t581.length co92] ?_; (with_reducible refine (laws_eqStepS.calls kj12 _ _ t570 _ _ t581 true _ ?side1 ?side2 ?side3 ?side4 A34.out).mono ?_); (case side1 => exact nc_ (rR9 HO_8.out).2.2); (case side2 => exact (rR9 HO_8.out).2.1); (case side3 => exact nc_ (rR9 HO583.out).2.2); (case side4 => exact (rR9 HO583.out).2.1); rintro e w93 ⟨rfl, hb⟩; refine ⟨_, rfl, ?_⟩; replace HO_6 := kR_ HO_6 hb; replace HO_8 := kR_ HO_8 hb; replace HO_9 := kR_ HO_9 hb; replace HO_10 := kR_ HO_10 hb; replace HO583 := kR_ HO583 hb; replace HB := kB_ HB hb; (try clear hb); (try clear hb2); (try clear hk); (try clear hi)) | ((with_reducible refine gate_callee (f := 18) rfl ?_); refine gl_ (some 61) Try.func18 #[.slice A1 l1.length c1] ?_; (with_reducible refine (laws_toStepS.calls kj12 _ _ l1 t585 _ ?side1 ?side2 A36.out).mono ?_); (case side1 => exact nc_ (Kd.C_below HR1.out HB.out)); (case side2 => exact HC1.out); rintro e w94 ⟨v586, rfl, ho0, hb⟩; refine ⟨_, rfl, ?_⟩; have HO587 := Aside0.mk (Kd.R_lower (Kd.R_new' (Kd.R_new' (Kd.R_new' (Kd.R_new' (Kd.R_new' ho0 (Kd.R_lt (nr_ HO_6.out))) (Kd.R_lt (nr_ HO_8.out))) (Kd.R_lt (nr_ HO_9.out))) (Kd.R_lt (nr_ HO_10.out))) (Kd.R_lt (nr_ HO583.out))) (below_size (ne_ HB.out))); replace HO_6 := Aside0.mk (Kd.R_elder' (nr_ HO_6.out) (Kd.R_base ho0) hb); replace HO_8 := Aside0.mk (Kd.R_elder' (nr_ HO_8.out) (Kd.R_base ho0) hb); replace HO_9 := Aside0.mk (Kd.R_elder' (nr_ HO_9.out) (Kd.R_base ho0) hb); replace HO_10 := Aside0.mk (Kd.R_elder' (nr_ HO_10.out) (Kd.R_base ho0) hb); replace HO583 := Aside0.mk (Kd.R_elder' (nr_ HO583.out) (Kd.R_base ho0) hb); replace HB := kB_ HB hb; (try clear hb); (try clear hb2); (try clear hk); (try clear hi); (try clear ho0); obtain ⟨Ao95, co95, eo95⟩ := Kd.R_slice HO587.out; subst eo95) | ((with_reducible refine gate_callee (f := 13) rfl ?_); refine gl_ (some 62) Try.func13 #[.slice Ao22 t573.length co22, .slice Ao95 t585.length co95] ?_; (with_reducible refine (laws_eqStepS.calls kj12 _ _ t573 _ _ t585 false _ ?side1 ?side2 ?side3 ?side4 A37.out).mono ?_); (case side1 => exact nc_ (rR9 HO_9.out).2.2); (case side2 => exact (rR9 HO_9.out).2.1); (case side3 => exact nc_ (rR9 HO587.out).2.2); (case side4 => exact (rR9 HO587.out).2.1); rintro e w96 ⟨rfl, hb⟩; refine ⟨_, rfl, ?_⟩; replace HO_6 := kR_ HO_6 hb; replace HO_8 := kR_ HO_8 hb; replace HO_9 := kR_ HO_9 hb; replace HO_10 := kR_ HO_10 hb; replace HO583 := kR_ HO583 hb; replace HO587 := kR_ HO587 hb; replace HB := kB_ HB hb; (try clear hb); (try clear hb2); (try clear hk); (try clear hi)))
     go_ret
     exact ⟨nw_, ne_ HB.out⟩
    subst c38
    rw [if_pos rfl] at H
    replace H := Option.bind_eq_some_iff.mp H
    obtain ⟨⟨t589, t590⟩, A390, H⟩ := H
    try dsimp only at H
    have A39 := Aside0.mk A390
    clear A390
    replace H := Option.bind_eq_some_iff.mp H
    obtain ⟨⟨t591, t592⟩, A400, H⟩ := H
    try dsimp only at H
    have A40 := Aside0.mk A400
    clear A400
    have HC41 := Aside0.mk H
    clear H
    go_upto_region 21 with (first | ((with_reducible refine gate_callee (f := 18) rfl ?_); refine gl_ (some 56) Try.func18 #[.slice A0 l0.length c0] ?_; (with_reducible refine (laws_toStepS.calls kj12 _ _ l0 t581 _ ?side1 ?side2 A33.out).mono ?_); (case side1 => exact nc_ (Kd.C_below HR0.out HB.out)); (case side2 => exact HC0.out); rintro e w42 ⟨v582, rfl, ho0, hb⟩; refine ⟨_, rfl, ?_⟩; have HO583 := Aside0.mk (Kd.R_lower (Kd.R_new' (Kd.R_new' (Kd.R_new' (Kd.R_new' ho0 (Kd.R_lt (nr_ HO_6.out))) (Kd.R_lt (nr_ HO_8.out))) (Kd.R_lt (nr_ HO_9.out))) (Kd.R_lt (nr_ HO_10.out))) (below_size (ne_ HB.out))); replace HO_6 := Aside0.mk (Kd.R_elder' (nr_ HO_6.out) (Kd.R_base ho0) hb); replace HO_8 := Aside0.mk (Kd.R_elder' (nr_ HO_8.out) (Kd.R_base ho0) hb); replace HO_9 := Aside0.mk (Kd.R_elder' (nr_ HO_9.out) (Kd.R_base ho0) hb); replace HO_10 := Aside0.mk (Kd.R_elder' (nr_ HO_10.out) (Kd.R_base ho0) hb); replace HB := kB_ HB hb; (try clear hb); (try clear hb2); (try clear hk); (try clear hi); (try clear ho0); obtain ⟨Ao43, co43, eo43⟩ := Kd.R_slice HO583.out; subst eo43) | ((with_reducible refine gate_callee (f := 13) rfl ?_); refine gl_ (some 57) Try.func13 #[.slice Ao21 t570.length co21, .slice Ao43 t581.length co43] ?_; (with_reducible refine (laws_eqStepS.calls kj12 _ _ t570 _ _ t581 true _ ?side1 ?side2 ?side3 ?side4 A34.out).mono ?_); (case side1 => exact nc_ (rR9 HO_8.out).2.2); (case side2 => exact (rR9 HO_8.out).2.1); (case side3 => exact nc_ (rR9 HO583.out).2.2); (case side4 => exact (rR9 HO583.out).2.1); rintro e w44 ⟨rfl, hb⟩; refine ⟨_, rfl, ?_⟩; replace HO_6 := kR_ HO_6 hb; replace HO_8 := kR_ HO_8 hb; replace HO_9 := kR_ HO_9 hb; replace HO_10 := kR_ HO_10 hb; replace HO583 := kR_ HO583 hb; replace HB := kB_ HB hb; (try clear hb); (try clear hb2); (try clear hk); (try clear hi)) | ((with_reducible refine gate_callee (f := 18) rfl ?_); refine gl_ (some 61) Try.func18 #[.slice A1 l1.length c1] ?_; (with_reducible refine (laws_toStepS.calls kj12 _ _ l1 t585 _ ?side1 ?side2 A36.out).mono ?_); (case side1 => exact nc_ (Kd.C_below HR1.out HB.out)); (case side2 => exact HC1.out); rintro e w45 ⟨v586, rfl, ho0, hb⟩; refine ⟨_, rfl, ?_⟩; have HO587 := Aside0.mk (Kd.R_lower (Kd.R_new' (Kd.R_new' (Kd.R_new' (Kd.R_new' (Kd.R_new' ho0 (Kd.R_lt (nr_ HO_6.out))) (Kd.R_lt (nr_ HO_8.out))) (Kd.R_lt (nr_ HO_9.out))) (Kd.R_lt (nr_ HO_10.out))) (Kd.R_lt (nr_ HO583.out))) (below_size (ne_ HB.out))); replace HO_6 := Aside0.mk (Kd.R_elder' (nr_ HO_6.out) (Kd.R_base ho0) hb); replace HO_8 := Aside0.mk (Kd.R_elder' (nr_ HO_8.out) (Kd.R_base ho0) hb); replace HO_9 := Aside0.mk (Kd.R_elder' (nr_ HO_9.out) (Kd.R_base ho0) hb); replace HO_10 := Aside0.mk (Kd.R_elder' (nr_ HO_10.out) (Kd.R_base ho0) hb); replace HO583 := Aside0.mk (Kd.R_elder' (nr_ HO583.out) (Kd.R_base ho0) hb); replace HB := kB_ HB hb; (try clear hb); (try clear hb2); (try clear hk); (try clear hi); (try clear ho0); obtain ⟨Ao46, co46, eo46⟩ := Kd.R_slice HO587.out; subst eo46) | ((with_reducible refine gate_callee (f := 13) rfl ?_); refine gl_ (some 62) Try.func13 #[.slice Ao22 t573.length co22, .slice Ao46 t585.length co46] ?_; (with_reducible refine (laws_eqStepS.calls kj12 _ _ t573 _ _ t585 true _ ?side1 ?side2 ?side3 ?side4 A37.out).mono ?_); (case side1 => exact nc_ (rR9 HO_9.out).2.2); (case side2 => exact (rR9 HO_9.out).2.1); (case side3 => exact nc_ (rR9 HO587.out).2.2); (case side4 => exact (rR9 HO587.out).2.1); rintro e w47 ⟨rfl, hb⟩; refine ⟨_, rfl, ?_⟩; replace HO_6 := kR_ HO_6 hb; replace HO_8 := kR_ HO_8 hb; replace HO_9 := kR_ HO_9 hb; replace HO_10 := kR_ HO_10 hb; replace HO583 := kR_ HO583 hb; replace HO587 := kR_ HO587 hb; replace HB := kB_ HB hb; (try clear hb); (try clear hb2); (try clear hk); (try clear hi)) | ((with_reducible refine gate_callee (f := 14) rfl ?_); refine gl_ (some 66) Try.func14 #[.slice Ao21 t570.length co21, .int .i64 1] ?_; (with_reducible refine (laws_markStepS.calls kj12 (fun k_ => some k_ = (.slice Ao21 t570.length co21 : Value).ownBlock) (.slice Ao21 t570.length co21) t570 1 t589 t590 w _ ?side1 ?side2 A39.out).mono ?_); (case side1 => exact (ne_ HB.out)); (case side2 => exact Kd.R_tight rfl HO_8.out); rintro e w48 ⟨rfl, hy0, hb, hkp⟩; refine ⟨_, rfl, ?_⟩; replace HO_6 := Aside0.mk (Kd.R_mono (ok' := fun k_ => some k_ ≠ (.slice Ao21 t570.length co21 : Value).ownBlock ∧ some k_ ≠ (.slice Ao22 t573.length co22 : Value).ownBlock ∧ some k_ ≠ (v577 : Value).ownBlock ∧ some k_ ≠ (.slice Ao43 t581.length co43 : Value).ownBlock ∧ some k_ ≠ (.slice Ao46 t585.length co46 : Value).ownBlock) (Kd.R_keptB (HO_6.out) hkp (fun k_ hk_ hs_ => (hk_.1.1.1) hs_)) (fun k_ hk_ => ⟨hk_.1.1.1.1, hk_.1.1.1.2.1, hk_.1.1.1.2.2, hk_.1.1.2, hk_.1.2⟩)); replace HO_8 := Aside0.mk (Kd.R_reok rfl hy0 (fun k_ e_ => HO_8.out.1 k_ e_)); replace HO_9 := Aside0.mk (Kd.R_mono (ok' := fun k_ => some k_ ≠ (v568 : Value).ownBlock ∧ some k_ ≠ (.slice Ao21 t570.length co21 : Value).ownBlock ∧ some k_ ≠ (v577 : Value).ownBlock ∧ some k_ ≠ (.slice Ao43 t581.length co43 : Value).ownBlock ∧ some k_ ≠ (.slice Ao46 t585.length co46 : Value).ownBlock) (Kd.R_keptB (HO_9.out) hkp (fun k_ hk_ hs_ => (hk_.1.1.2.1) hs_)) (fun k_ hk_ => ⟨hk_.1.1.1.1, hk_.1.1.1.2.1, hk_.1.1.1.2.2, hk_.1.1.2, hk_.1.2⟩)); replace HO_10 := Aside0.mk (Kd.R_mono (ok' := fun k_ => some k_ ≠ (v568 : Value).ownBlock ∧ some k_ ≠ (.slice Ao21 t570.length co21 : Value).ownBlock ∧ some k_ ≠ (.slice Ao22 t573.length co22 : Value).ownBlock ∧ some k_ ≠ (.slice Ao43 t581.length co43 : Value).ownBlock ∧ some k_ ≠ (.slice Ao46 t585.length co46 : Value).ownBlock) (Kd.R_keptB (HO_10.out) hkp (fun k_ hk_ hs_ => (hk_.1.1.2.1) hs_)) (fun k_ hk_ => ⟨hk_.1.1.1.1, hk_.1.1.1.2.1, hk_.1.1.1.2.2, hk_.1.1.2, hk_.1.2⟩)); replace HO583 := Aside0.mk (Kd.R_mono (ok' := fun k_ => some k_ ≠ (v568 : Value).ownBlock ∧ some k_ ≠ (.slice Ao21 t570.length co21 : Value).ownBlock ∧ some k_ ≠ (.slice Ao22 t573.length co22 : Value).ownBlock ∧ some k_ ≠ (v577 : Value).ownBlock ∧ some k_ ≠ (.slice Ao46 t585.length co46 : Value).ownBlock) (Kd.R_keptB (HO583.out) hkp (fun k_ hk_ hs_ => (hk_.1.1.1.2) hs_)) (fun k_ hk_ => ⟨hk_.1.1.1.1.1.2, hk_.1.1.1.1.2, hk_.1.1.1.2, hk_.1.1.2, hk_.1.2⟩)); replace HO587 := Aside0.mk (Kd.R_mono (ok' := fun k_ => some k_ ≠ (v568 : Value).ownBlock ∧ some k_ ≠ (.slice Ao21 t570.length co21 : Value).ownBlock ∧ some k_ ≠ (.slice Ao22 t573.length co22 : Value).ownBlock ∧ some k_ ≠ (v577 : Value).ownBlock ∧ some k_ ≠ (.slice Ao43 t581.length co43 : Value).ownBlock) (Kd.R_keptB (HO587.out) hkp (fun k_ hk_ hs_ => (hk_.1.1.1.2) hs_)) (fun k_ hk_ => ⟨hk_.1.1.1.1.1.2, hk_.1.1.1.1.2, hk_.1.1.1.2, hk_.1.1.2, hk_.1.2⟩)); replace HB := Aside0.mk (hb); (try clear hb); (try clear hkp); (try clear hy0)) | ((with_reducible refine gate_callee (f := 14) rfl ?_); refine gl_ (some 69) Try.func14 #[.slice Ao22 t573.length co22, .int .i64 t589] ?_; (with_reducible refine (laws_markStepS.calls kj12 (fun k_ => some k_ = (.slice Ao22 t573.length co22 : Value).ownBlock) (.slice Ao22 t573.length co22) t573 t589 t591 t592 w _ ?side1 ?side2 A40.out).mono ?_); (case side1 => exact (ne_ HB.out)); (case side2 => exact Kd.R_tight rfl HO_9.out); rintro e w49 ⟨rfl, hy0, hb, hkp⟩; refine ⟨_, rfl, ?_⟩; replace HO_6 := Aside0.mk (Kd.R_mono (ok' := fun k_ => some k_ ≠ (.slice Ao21 t570.length co21 : Value).ownBlock ∧ some k_ ≠ (.slice Ao22 t573.length co22 : Value).ownBlock ∧ some k_ ≠ (v577 : Value).ownBlock ∧ some k_ ≠ (.slice Ao43 t581.length co43 : Value).ownBlock ∧ some k_ ≠ (.slice Ao46 t585.length co46 : Value).ownBlock) (Kd.R_keptB (HO_6.out) hkp (fun k_ hk_ hs_ => (hk_.2.1) hs_)) (fun k_ hk_ => ⟨hk_.1.1, hk_.1.2.1, hk_.1.2.2.1, hk_.1.2.2.2.1, hk_.1.2.2.2.2⟩)); replace HO_8 := Aside0.mk (Kd.R_mono (ok' := fun k_ => some k_ ≠ (v568 : Value).ownBlock ∧ some k_ ≠ (.slice Ao22 t573.length co22 : Value).ownBlock ∧ some k_ ≠ (v577 : Value).ownBlock ∧ some k_ ≠ (.slice Ao43 t581.length co43 : Value).ownBlock ∧ some k_ ≠ (.slice Ao46 t585.length co46 : Value).ownBlock) (Kd.R_keptB (HO_8.out) hkp (fun k_ hk_ hs_ => (hk_.1.1.2.1) hs_)) (fun k_ hk_ => ⟨hk_.1.1.1.1, hk_.1.1.1.2.1, hk_.1.1.1.2.2, hk_.1.1.2, hk_.1.2⟩)); replace HO_9 := Aside0.mk (Kd.R_reok rfl hy0 (fun k_ e_ => HO_9.out.1 k_ e_)); replace HO_10 := Aside0.mk (Kd.R_mono (ok' := fun k_ => some k_ ≠ (v568 : Value).ownBlock ∧ some k_ ≠ (.slice Ao21 t570.length co21 : Value).ownBlock ∧ some k_ ≠ (.slice Ao22 t573.length co22 : Value).ownBlock ∧ some k_ ≠ (.slice Ao43 t581.length co43 : Value).ownBlock ∧ some k_ ≠ (.slice Ao46 t585.length co46 : Value).ownBlock) (Kd.R_keptB (HO_10.out) hkp (fun k_ hk_ hs_ => (hk_.2.2.1) hs_)) (fun k_ hk_ => ⟨hk_.1.1, hk_.1.2.1, hk_.1.2.2.1, hk_.1.2.2.2.1, hk_.1.2.2.2.2⟩)); replace HO583 := Aside0.mk (Kd.R_mono (ok' := fun k_ => some k_ ≠ (v568 : Value).ownBlock ∧ some k_ ≠ (.slice Ao21 t570.length co21 : Value).ownBlock ∧ some k_ ≠ (.slice Ao22 t573.length co22 : Value).ownBlock ∧ some k_ ≠ (v577 : Value).ownBlock ∧ some k_ ≠ (.slice Ao46 t585.length co46 : Value).ownBlock) (Kd.R_keptB (HO583.out) hkp (fun k_ hk_ hs_ => (hk_.2.2.1) hs_)) (fun k_ hk_ => ⟨hk_.1.1, hk_.1.2.1, hk_.1.2.2.1, hk_.1.2.2.2.1, hk_.1.2.2.2.2⟩)); replace HO587 := Aside0.mk (Kd.R_mono (ok' := fun k_ => some k_ ≠ (v568 : Value).ownBlock ∧ some k_ ≠ (.slice Ao21 t570.length co21 : Value).ownBlock ∧ some k_ ≠ (.slice Ao22 t573.length co22 : Value).ownBlock ∧ some k_ ≠ (v577 : Value).ownBlock ∧ some k_ ≠ (.slice Ao43 t581.length co43 : Value).ownBlock) (Kd.R_keptB (HO587.out) hkp (fun k_ hk_ hs_ => (hk_.2.2.1) hs_)) (fun k_ hk_ => ⟨hk_.1.1, hk_.1.2.1, hk_.1.2.2.1, hk_.1.2.2.2.1, hk_.1.2.2.2.2⟩)); replace HB := Aside0.mk (hb); (try clear hb); (try clear hkp); (try clear hy0)))
    (try simp only [Act.put, List.setIfInBounds_toArray, List.set_cons_zero, List.set_cons_succ])
    go_cut [82] (fun v82 wc => ∃ (kq : Nat) (x82_40 : Bool), v82 = .bool x82_40 ∧ Aside0 (laws_FnExactStairBest.j1 kq l0 l1 t566 t567 t576 x82_40 = some r) ∧ Aside0 (kq ≤ kj12) ∧ Aside0 (Kd.R k36 36 wc w.heap.size (fun k_ => some k_ ≠ (v577 : Value).ownBlock) v568 t566) ∧ Aside0 (Kd.R k36 36 wc w.heap.size (fun k_ => some k_ ≠ (v568 : Value).ownBlock) v577 t576) ∧ Aside0 (Below w.heap.size w wc))
    case first =>
     have H := HC41.out
     clear HC41
     by_cases c50 : t591 < 0
     ·rw [if_pos c50] at H
      have c50b0 : decide (t591 < 0) = true := decide_eq_true c50
      clear c50
      (first | rw [c50b0] | (simp only [i64_w, i32_w]; rw [c50b0]) | skip)
      have H' := Aside0.mk H
      clear H
      go_wp2
      go_meet
      case rel => exact ⟨_, (true), ns_, H', ⟨by have := HJ12.out; first | omega | exact Nat.le_refl _⟩, ⟨by (with_reducible repeat (first | apply Kd.R_alloc | apply Kd.R_drewN | apply Kd.R_drew)); exact Kd.R_mono HO_6.out (fun _ hk => by first | exact hk.2.2.1 | trivial | simp_all)⟩, ⟨by (with_reducible repeat (first | apply Kd.R_alloc | apply Kd.R_drewN | apply Kd.R_drew)); exact Kd.R_mono HO_10.out (fun _ hk => hk.1)⟩, ⟨ne_ HB.out⟩⟩
     rw [if_neg c50] at H
     have c50b0 : decide (t591 < 0) = false := decide_eq_false c50
     clear c50
     (first | rw [c50b0] | (simp only [i64_w, i32_w]; rw [c50b0]) | skip)
     replace H := Option.bind_eq_some_iff.mp H
     obtain ⟨t593, A510, H⟩ := H
     try dsimp only at H
     have A51 := Aside0.mk A510
     clear A510
     by_cases c52 : t593 = true
     ·subst c52
      have H1 : (laws_FnExactStairBest.j1 kj12 l0 l1 t566 t567 t576 (t579 != t567)) = some r := by rw [if_pos rfl] at H; exact H
      clear H
      have H := H1
      clear H1
      have H' := Aside0.mk H
      clear H
      obtain ⟨Ao53, co53, eo53⟩ := Kd.R_slice HO_10.out
      subst eo53
      obtain ⟨Ao54, co54, eo54⟩ := Kd.R_slice HO_6.out
      subst eo54
      go_wp2_with (first | (go_at_call 13; (with_reducible refine (laws_eqStepS.calls kj12 _ _ t576 _ _ t566 true _ ?side1 ?side2 ?side3 ?side4 A51.out).mono ?_); (case side1 => exact nc_ (rR9 HO_10.out).2.2); (case side2 => exact (rR9 HO_10.out).2.1); (case side3 => exact nc_ (rR9 HO_6.out).2.2); (case side4 => exact (rR9 HO_6.out).2.1); rintro e w55 ⟨rfl, hb⟩; replace HO_6 := kR_ HO_6 hb; replace HO_8 := kR_ HO_8 hb; replace HO_9 := kR_ HO_9 hb; replace HO_10 := kR_ HO_10 hb; replace HO583 := kR_ HO583 hb; replace HO587 := kR_ HO587 hb; replace HB := kB_ HB hb; (try clear hb); (try clear hb2); (try clear hk); (try clear hi)))
      go_meet
      case rel => exact ⟨_, ((t579 != t567)), ns_, H', ⟨by have := HJ12.out; first | omega | exact Nat.le_refl _⟩, ⟨by (with_reducible repeat (first | apply Kd.R_alloc | apply Kd.R_drewN | apply Kd.R_drew)); exact Kd.R_mono HO_6.out (fun _ hk => by first | exact hk.2.2.1 | trivial | simp_all)⟩, ⟨by (with_reducible repeat (first | apply Kd.R_alloc | apply Kd.R_drewN | apply Kd.R_drew)); exact Kd.R_mono HO_10.out (fun _ hk => hk.1)⟩, ⟨ne_ HB.out⟩⟩
     replace c52 := Bool.eq_false_iff.mpr c52
     subst c52
     have H1 : (laws_FnExactStairBest.j1 kj12 l0 l1 t566 t567 t576 true) = some r := by rw [if_neg (show ¬ (false = true) by decide)] at H; exact H
     clear H
     have H := H1
     clear H1
     have H' := Aside0.mk H
     clear H
     obtain ⟨Ao56, co56, eo56⟩ := Kd.R_slice HO_10.out
     subst eo56
     obtain ⟨Ao57, co57, eo57⟩ := Kd.R_slice HO_6.out
     subst eo57
     go_wp2_with (first | (go_at_call 13; (with_reducible refine (laws_eqStepS.calls kj12 _ _ t576 _ _ t566 false _ ?side1 ?side2 ?side3 ?side4 A51.out).mono ?_); (case side1 => exact nc_ (rR9 HO_10.out).2.2); (case side2 => exact (rR9 HO_10.out).2.1); (case side3 => exact nc_ (rR9 HO_6.out).2.2); (case side4 => exact (rR9 HO_6.out).2.1); rintro e w58 ⟨rfl, hb⟩; replace HO_6 := kR_ HO_6 hb; replace HO_8 := kR_ HO_8 hb; replace HO_9 := kR_ HO_9 hb; replace HO_10 := kR_ HO_10 hb; replace HO583 := kR_ HO583 hb; replace HO587 := kR_ HO587 hb; replace HB := kB_ HB hb; (try clear hb); (try clear hb2); (try clear hk); (try clear hi)))
     go_meet
     case rel => exact ⟨_, (true), ns_, H', ⟨by have := HJ12.out; first | omega | exact Nat.le_refl _⟩, ⟨by (with_reducible repeat (first | apply Kd.R_alloc | apply Kd.R_drewN | apply Kd.R_drew)); exact Kd.R_mono HO_6.out (fun _ hk => by first | exact hk.2.2.1 | trivial | simp_all)⟩, ⟨by (with_reducible repeat (first | apply Kd.R_alloc | apply Kd.R_drewN | apply Kd.R_drew)); exact Kd.R_mono HO_10.out (fun _ hk => hk.1)⟩, ⟨ne_ HB.out⟩⟩
    case rest =>
     clear HC41
     try clear c1
     try clear c4
     try clear c4b0
     try clear c6
     try clear c6b0
     try clear c32
     try clear c35
     try clear c38
     obtain ⟨kq, x82_40, rfl, HA, HJ40, HO_6, HO_10, HB⟩ := hcut
     cases kq with
     | zero => exact absurd HA.out (by simp [laws_FnExactStairBest.j1])
     | succ kj40 =>
      have H := HA.out
      clear HA
      simp only [laws_FnExactStairBest.j1] at H
      by_cases c59 : x82_40 = true
      ·subst c59
       have H1 : (some false) = some r := by rw [if_pos rfl] at H; exact H
       clear H
       have H := H1
       clear H1
       obtain rfl := Option.some.inj H
       go_wp2
       go_ret
       exact ⟨nw_, ne_ HB.out⟩
      replace c59 := Bool.eq_false_iff.mpr c59
      subst c59
      have H1 : ((laws_markStepS.f kj40 t576 1).bind fun bt594 => ((laws_heldStepS.f kj40 bt594.2 1).bind fun t596 => (if t596 < 0 then (some false) else (if t596 = bt594.1 then ((laws_toStepS.f kj40 l0).bind fun t597 => ((laws_toStepS.f kj40 l1).bind fun t600 => ((impl_StairBest.f kj40 t597 t600).bind fun bt603 => ((laws_eqStepS.f kj40 bt603.1 t566).bind fun t607 => (if t607 = true then (laws_FnExactStairBest.j2 kj40 bt594.2 bt594.1 (bt603.2 != t567)) else (laws_FnExactStairBest.j2 kj40 bt594.2 bt594.1 true)))))) else (some false))))) = some r := by rw [if_neg (show ¬ (false = true) by decide)] at H; exact H
      clear H
      have H := H1
      clear H1
      replace H := Option.bind_eq_some_iff.mp H
      obtain ⟨⟨t594, t595⟩, A600, H⟩ := H
      try dsimp only at H
      have A60 := Aside0.mk A600
      clear A600
      replace H := Option.bind_eq_some_iff.mp H
      obtain ⟨t596, A610, H⟩ := H
      try dsimp only at H
      have A61 := Aside0.mk A610
      clear A610
      by_cases c62 : t596 < 0
      ·rw [if_pos c62] at H
       have c62b0 : decide (t596 < 0) = true := decide_eq_true c62
       clear c62
       obtain rfl := Option.some.inj H
       obtain ⟨Ao63, co63, eo63⟩ := Kd.R_slice HO_10.out
       subst eo63
       go_wp2_with (first | ((with_reducible refine gate_callee (f := 14) rfl ?_); refine gl_ (some 85) Try.func14 #[.slice Ao63 t576.length co63, .int .i64 1] ?_; (with_reducible refine (laws_markStepS.calls kj40 (fun k_ => some k_ = (.slice Ao63 t576.length co63 : Value).ownBlock) (.slice Ao63 t576.length co63) t576 1 t594 t595 w _ ?side1 ?side2 A60.out).mono ?_); (case side1 => exact (ne_ HB.out)); (case side2 => exact Kd.R_tight rfl HO_10.out); rintro e w64 ⟨rfl, hy0, hb, hkp⟩; refine ⟨_, rfl, ?_⟩; replace HO_6 := Aside0.mk (Kd.R_mono (ok' := fun k_ => some k_ ≠ (.slice Ao63 t576.length co63 : Value).ownBlock) (Kd.R_keptB (HO_6.out) hkp (fun k_ hk_ hs_ => (hk_) hs_)) (fun k_ hk_ => hk_.1)); replace HO_10 := Aside0.mk (Kd.R_reok rfl hy0 (fun k_ e_ => HO_10.out.1 k_ e_)); replace HB := Aside0.mk (hb); (try clear hb); (try clear hkp); (try clear hy0)) | ((with_reducible refine gate_callee (f := 15) rfl ?_); refine goesL_ (some 88) rfl rfl Try.func15 (by kernel_rfl) rfl #[.slice Ao63 t595.length co63, .int .i64 1] rfl (by (try simp only [List.map_toArray, List.map_cons, List.map_nil]); first | done | (rw [show t595.length = t576.length from (rR9 HO_10.out).1.symm] <;> rfl) | rfl | (simp only [List.length_drop, List.length_take]; rfl)) ?_; (with_reducible refine (laws_heldStepS.calls kj40 _ _ t595 1 t596 _ ?side1 ?side2 A61.out).mono ?_); (case side1 => exact nc_ (rR9 HO_10.out).2.2); (case side2 => rw [show t595.length = t576.length from (rR9 HO_10.out).1.symm]; exact (rR9 HO_10.out).2.1); rintro e w' ⟨rfl, ⟨nd, rfl⟩⟩; refine ⟨_, rfl, ?_⟩))
       go_ret
       exact ⟨nw_, ne_ HB.out⟩
      rw [if_neg c62] at H
      have c62b0 : decide (t596 < 0) = false := decide_eq_false c62
      clear c62
      by_cases c65 : t596 = t594
      rotate_left
      ·rw [if_neg c65] at H
       have c65b0 : (t596 == t594) = false := beq_eq_false_iff_ne.mpr c65
       have c65b1 : (t596 != t594) = true := bne_iff_ne.mpr c65
       obtain rfl := Option.some.inj H
       obtain ⟨Ao89, co89, eo89⟩ := Kd.R_slice HO_10.out
       subst eo89
       go_wp2_with (first | ((with_reducible refine gate_callee (f := 14) rfl ?_); refine gl_ (some 85) Try.func14 #[.slice Ao89 t576.length co89, .int .i64 1] ?_; (with_reducible refine (laws_markStepS.calls kj40 (fun k_ => some k_ = (.slice Ao89 t576.length co89 : Value).ownBlock) (.slice Ao89 t576.length co89) t576 1 t594 t595 w _ ?side1 ?side2 A60.out).mono ?_); (case side1 => exact (ne_ HB.out)); (case side2 => exact Kd.R_tight rfl HO_10.out); rintro e w90 ⟨rfl, hy0, hb, hkp⟩; refine ⟨_, rfl, ?_⟩; replace HO_6 := Aside0.mk (Kd.R_mono (ok' := fun k_ => some k_ ≠ (.slice Ao89 t576.length co89 : Value).ownBlock) (Kd.R_keptB (HO_6.out) hkp (fun k_ hk_ hs_ => (hk_) hs_)) (fun k_ hk_ => hk_.1)); replace HO_10 := Aside0.mk (Kd.R_reok rfl hy0 (fun k_ e_ => HO_10.out.1 k_ e_)); replace HB := Aside0.mk (hb); (try clear hb); (try clear hkp); (try clear hy0)) | ((with_reducible refine gate_callee (f := 15) rfl ?_); refine goesL_ (some 88) rfl rfl Try.func15 (by kernel_rfl) rfl #[.slice Ao89 t595.length co89, .int .i64 1] rfl (by (try simp only [List.map_toArray, List.map_cons, List.map_nil]); first | done | (rw [show t595.length = t576.length from (rR9 HO_10.out).1.symm] <;> rfl) | rfl | (simp only [List.length_drop, List.length_take]; rfl)) ?_; (with_reducible refine (laws_heldStepS.calls kj40 _ _ t595 1 t596 _ ?side1 ?side2 A61.out).mono ?_); (case side1 => exact nc_ (rR9 HO_10.out).2.2); (case side2 => rw [show t595.length = t576.length from (rR9 HO_10.out).1.symm]; exact (rR9 HO_10.out).2.1); rintro e w' ⟨rfl, ⟨nd, rfl⟩⟩; refine ⟨_, rfl, ?_⟩))
       go_ret
       exact ⟨nw_, ne_ HB.out⟩
      rw [if_pos c65] at H
      have c65b0 : (t596 == t594) = true := beq_iff_eq.mpr c65
      have c65b1 : (t596 != t594) = false := bne_eq_false_iff_eq.mpr c65
      clear c65
      replace H := Option.bind_eq_some_iff.mp H
      obtain ⟨t597, A660, H⟩ := H
      try dsimp only at H
      have A66 := Aside0.mk A660
      clear A660
      replace H := Option.bind_eq_some_iff.mp H
      obtain ⟨t600, A670, H⟩ := H
      try dsimp only at H
      have A67 := Aside0.mk A670
      clear A670
      replace H := Option.bind_eq_some_iff.mp H
      obtain ⟨⟨t603, t606⟩, A680, H⟩ := H
      try dsimp only at H
      have A68 := Aside0.mk A680
      clear A680
      have HC69 := Aside0.mk H
      clear H
      obtain ⟨Ao70, co70, eo70⟩ := Kd.R_slice HO_10.out
      subst eo70
      go_upto_region 32 with (first | ((with_reducible refine gate_callee (f := 14) rfl ?_); refine gl_ (some 85) Try.func14 #[.slice Ao70 t576.length co70, .int .i64 1] ?_; (with_reducible refine (laws_markStepS.calls kj40 (fun k_ => some k_ = (.slice Ao70 t576.length co70 : Value).ownBlock) (.slice Ao70 t576.length co70) t576 1 t594 t595 w _ ?side1 ?side2 A60.out).mono ?_); (case side1 => exact (ne_ HB.out)); (case side2 => exact Kd.R_tight rfl HO_10.out); rintro e w71 ⟨rfl, hy0, hb, hkp⟩; refine ⟨_, rfl, ?_⟩; replace HO_6 := Aside0.mk (Kd.R_mono (ok' := fun k_ => some k_ ≠ (.slice Ao70 t576.length co70 : Value).ownBlock) (Kd.R_keptB (HO_6.out) hkp (fun k_ hk_ hs_ => (hk_) hs_)) (fun k_ hk_ => hk_.1)); replace HO_10 := Aside0.mk (Kd.R_reok rfl hy0 (fun k_ e_ => HO_10.out.1 k_ e_)); replace HB := Aside0.mk (hb); (try clear hb); (try clear hkp); (try clear hy0)) | ((with_reducible refine gate_callee (f := 15) rfl ?_); refine goesL_ (some 88) rfl rfl Try.func15 (by kernel_rfl) rfl #[.slice Ao70 t595.length co70, .int .i64 1] rfl (by (try simp only [List.map_toArray, List.map_cons, List.map_nil]); first | done | (rw [show t595.length = t576.length from (rR9 HO_10.out).1.symm] <;> rfl) | rfl | (simp only [List.length_drop, List.length_take]; rfl)) ?_; (with_reducible refine (laws_heldStepS.calls kj40 _ _ t595 1 t596 _ ?side1 ?side2 A61.out).mono ?_); (case side1 => exact nc_ (rR9 HO_10.out).2.2); (case side2 => rw [show t595.length = t576.length from (rR9 HO_10.out).1.symm]; exact (rR9 HO_10.out).2.1); rintro e w' ⟨rfl, ⟨nd, rfl⟩⟩; refine ⟨_, rfl, ?_⟩) | ((with_reducible refine gate_callee (f := 18) rfl ?_); refine gl_ (some 96) Try.func18 #[.slice A0 l0.length c0] ?_; (with_reducible refine (laws_toStepS.calls kj40 _ _ l0 t597 _ ?side1 ?side2 A66.out).mono ?_); (case side1 => exact nc_ (Kd.C_below HR0.out (ne_ HB.out))); (case side2 => exact HC0.out); rintro e w72 ⟨v598, rfl, ho0, hb⟩; refine ⟨_, rfl, ?_⟩; have HO599 := Aside0.mk (Kd.R_lower (Kd.R_new' (Kd.R_new' ho0 (Kd.R_lt (nr_ HO_6.out))) (Kd.R_lt (nr_ HO_10.out))) (below_size (ne_ HB.out))); replace HO_6 := Aside0.mk (Kd.R_elder' (nr_ HO_6.out) (Kd.R_base ho0) hb); replace HO_10 := Aside0.mk (Kd.R_elder' (nr_ HO_10.out) (Kd.R_base ho0) hb); replace HB := kB_ HB hb; (try clear hb); (try clear hb2); (try clear hk); (try clear hi); (try clear ho0)) | ((with_reducible refine gate_callee (f := 18) rfl ?_); refine gl_ (some 98) Try.func18 #[.slice A1 l1.length c1] ?_; (with_reducible refine (laws_toStepS.calls kj40 _ _ l1 t600 _ ?side1 ?side2 A67.out).mono ?_); (case side1 => exact nc_ (Kd.C_below HR1.out HB.out)); (case side2 => exact HC1.out); rintro e w73 ⟨v601, rfl, ho0, hb⟩; refine ⟨_, rfl, ?_⟩; have HO602 := Aside0.mk (Kd.R_lower (Kd.R_new' (Kd.R_new' (Kd.R_new' ho0 (Kd.R_lt (nr_ HO_6.out))) (Kd.R_lt (nr_ HO_10.out))) (Kd.R_lt (nr_ HO599.out))) (below_size (ne_ HB.out))); replace HO_6 := Aside0.mk (Kd.R_elder' (nr_ HO_6.out) (Kd.R_base ho0) hb); replace HO_10 := Aside0.mk (Kd.R_elder' (nr_ HO_10.out) (Kd.R_base ho0) hb); replace HO599 := Aside0.mk (Kd.R_elder' (nr_ HO599.out) (Kd.R_base ho0) hb); replace HB := kB_ HB hb; (try clear hb); (try clear hb2); (try clear hk); (try clear hi); (try clear ho0); obtain ⟨Ao74, co74, eo74⟩ := Kd.R_slice HO599.out; subst eo74; obtain ⟨Ao75, co75, eo75⟩ := Kd.R_slice HO602.out; subst eo75) | ((with_reducible refine gate_callee (f := 28) rfl ?_); refine gl_ (some 99) Try.func28 #[.slice Ao74 t597.length co74, .slice Ao75 t600.length co75] ?_; (with_reducible refine (impl_StairBest.calls kj40 (fun k_ => some k_ = (.slice Ao74 t597.length co74 : Value).ownBlock) _ _ t597 (fun k_ => some k_ = (.slice Ao75 t600.length co75 : Value).ownBlock) _ _ t600 t603 t606 _ ?side1 ?side2 A68.out).mono ?_); (case side1 => exact Kd.R_V (Kd.R_tight rfl (HO599.out))); (case side2 => exact Kd.R_V (Kd.R_tight rfl (HO602.out))); rintro e w76 ⟨v604, rfl, ho0, hb⟩; refine ⟨_, rfl, ?_⟩; have HO605 := Aside0.mk (Kd.R_lower (Kd.R_new' (Kd.R_new' (Kd.R_new' (Kd.R_new' (Kd.R_mono (ok' := fun k_ => True) ho0 (fun _ hk_ => trivial)) (Kd.R_lt (nr_ HO_6.out))) (Kd.R_lt (nr_ HO_10.out))) (Kd.R_lt (nr_ HO599.out))) (Kd.R_lt (nr_ HO602.out))) (below_size (ne_ HB.out))); replace HO_6 := Aside0.mk (Kd.R_elder' (nr_ HO_6.out) (Kd.R_base ho0) hb); replace HO_10 := Aside0.mk (Kd.R_elder' (nr_ HO_10.out) (Kd.R_base ho0) hb); replace HO599 := Aside0.mk (Kd.R_elder' (nr_ HO599.out) (Kd.R_base ho0) hb); replace HO602 := Aside0.mk (Kd.R_elder' (nr_ HO602.out) (Kd.R_base ho0) hb); replace HB := kB_ HB hb; (try clear hb); (try clear hb2); (try clear hk); (try clear hi); (try clear ho0)))
      (try simp only [Act.put, List.setIfInBounds_toArray, List.set_cons_zero, List.set_cons_succ])
      go_cut [110] (fun v110 wc => ∃ (kq : Nat) (x110_68 : Bool), v110 = .bool x110_68 ∧ Aside0 (laws_FnExactStairBest.j2 kq t595 t594 x110_68 = some r) ∧ Aside0 (kq ≤ kj40) ∧ Aside0 (Kd.R k36 36 wc w.heap.size (fun _ => True) (.slice Ao70 t576.length co70) t595) ∧ Aside0 (Below w.heap.size w wc))
      case first =>
       have H := HC69.out
       clear HC69
       replace H := Option.bind_eq_some_iff.mp H
       obtain ⟨t607, A770, H⟩ := H
       try dsimp only at H
       have A77 := Aside0.mk A770
       clear A770
       by_cases c78 : t607 = true
       ·subst c78
        have H1 : (laws_FnExactStairBest.j2 kj40 t595 t594 (t606 != t567)) = some r := by rw [if_pos rfl] at H; exact H
        clear H
        have H := H1
        clear H1
        have H' := Aside0.mk H
        clear H
        obtain ⟨Ao79, co79, eo79⟩ := Kd.R_slice HO605.out
        subst eo79
        obtain ⟨Ao80, co80, eo80⟩ := Kd.R_slice HO_6.out
        subst eo80
        go_wp2_with (first | ((with_reducible refine gate_callee (f := 13) rfl ?_); refine gl_ (some 104) Try.func13 #[.slice Ao79 t603.length co79, .slice Ao80 t566.length co80] ?_; (with_reducible refine (laws_eqStepS.calls kj40 _ _ t603 _ _ t566 true _ ?side1 ?side2 ?side3 ?side4 A77.out).mono ?_); (case side1 => exact nc_ (rR9 HO605.out).2.2); (case side2 => exact (rR9 HO605.out).2.1); (case side3 => exact nc_ (rR9 HO_6.out).2.2); (case side4 => exact (rR9 HO_6.out).2.1); rintro e w81 ⟨rfl, hb⟩; refine ⟨_, rfl, ?_⟩; replace HO_6 := kR_ HO_6 hb; replace HO_10 := kR_ HO_10 hb; replace HO599 := kR_ HO599 hb; replace HO602 := kR_ HO602 hb; replace HO605 := kR_ HO605 hb; replace HB := kB_ HB hb; (try clear hb); (try clear hb2); (try clear hk); (try clear hi)))
        go_meet
        case rel => exact ⟨_, ((t606 != t567)), ns_, H', ⟨by have := HJ12.out; have := HJ40.out; first | omega | exact Nat.le_refl _⟩, ⟨by (with_reducible repeat (first | apply Kd.R_alloc | apply Kd.R_drewN | apply Kd.R_drew)); exact Kd.R_mono HO_10.out (fun _ hk => trivial)⟩, ⟨ne_ HB.out⟩⟩
       replace c78 := Bool.eq_false_iff.mpr c78
       subst c78
       have H1 : (laws_FnExactStairBest.j2 kj40 t595 t594 true) = some r := by rw [if_neg (show ¬ (false = true) by decide)] at H; exact H
       clear H
       have H := H1
       clear H1
       have H' := Aside0.mk H
       clear H
       obtain ⟨Ao82, co82, eo82⟩ := Kd.R_slice HO605.out
       subst eo82
       obtain ⟨Ao83, co83, eo83⟩ := Kd.R_slice HO_6.out
       subst eo83
       go_wp2_with (first | ((with_reducible refine gate_callee (f := 13) rfl ?_); refine gl_ (some 104) Try.func13 #[.slice Ao82 t603.length co82, .slice Ao83 t566.length co83] ?_; (with_reducible refine (laws_eqStepS.calls kj40 _ _ t603 _ _ t566 false _ ?side1 ?side2 ?side3 ?side4 A77.out).mono ?_); (case side1 => exact nc_ (rR9 HO605.out).2.2); (case side2 => exact (rR9 HO605.out).2.1); (case side3 => exact nc_ (rR9 HO_6.out).2.2); (case side4 => exact (rR9 HO_6.out).2.1); rintro e w84 ⟨rfl, hb⟩; refine ⟨_, rfl, ?_⟩; replace HO_6 := kR_ HO_6 hb; replace HO_10 := kR_ HO_10 hb; replace HO599 := kR_ HO599 hb; replace HO602 := kR_ HO602 hb; replace HO605 := kR_ HO605 hb; replace HB := kB_ HB hb; (try clear hb); (try clear hb2); (try clear hk); (try clear hi)))
       go_meet
       case rel => exact ⟨_, (true), ns_, H', ⟨by have := HJ12.out; have := HJ40.out; first | omega | exact Nat.le_refl _⟩, ⟨by (with_reducible repeat (first | apply Kd.R_alloc | apply Kd.R_drewN | apply Kd.R_drew)); exact Kd.R_mono HO_10.out (fun _ hk => trivial)⟩, ⟨ne_ HB.out⟩⟩
      case rest =>
       clear HC69
       try clear c1
       try clear c4
       try clear c4b0
       try clear c6
       try clear c6b0
       try clear c32
       try clear c35
       try clear c38
       try clear c59
       try clear c62
       try clear c62b0
       try clear c65
       try clear c65b0
       try clear c65b1
       obtain ⟨kq, x110_68, rfl, HA, HJ68, HO_10, HB⟩ := hcut
       have hl10_68 := (rR9 HO_10.out).1
       rw [hl10_68] at HO_10
       (try simp only [hl10_68])
       cases kq with
       | zero => exact absurd HA.out (by simp [laws_FnExactStairBest.j2])
       | succ kj68 =>
        have H := HA.out
        clear HA
        simp only [laws_FnExactStairBest.j2] at H
        by_cases c85 : x110_68 = true
        ·subst c85
         have H1 : (some false) = some r := by rw [if_pos rfl] at H; exact H
         clear H
         have H := H1
         clear H1
         obtain rfl := Option.some.inj H
         go_wp2
         go_ret
         exact ⟨nw_, ne_ HB.out⟩
        replace c85 := Bool.eq_false_iff.mpr c85
        subst c85
        have H1 : ((laws_heldStepS.f kj68 t595 1).bind fun t608 => (if t608 < 0 then (some false) else (if t608 = t594 then (some true) else (some false)))) = some r := by rw [if_neg (show ¬ (false = true) by decide)] at H; exact H
        clear H
        have H := H1
        clear H1
        replace H := Option.bind_eq_some_iff.mp H
        obtain ⟨t608, A860, H⟩ := H
        replace H : (if t608 < 0 then (some false) else (if t608 = t594 then (some true) else (some false))) = some r := H
        have A86 := Aside0.mk A860
        clear A860
        by_cases c87 : t608 < 0
        ·rw [if_pos c87] at H
         have c87b0 : decide (t608 < 0) = true := decide_eq_true c87
         clear c87
         obtain rfl := Option.some.inj H
         go_wp2_with (first | ((with_reducible refine gate_callee (f := 15) rfl ?_); refine gl_ (some 113) Try.func15 #[.slice Ao70 t595.length co70, .int .i64 1] ?_; (with_reducible refine (laws_heldStepS.calls kj68 _ _ t595 1 t608 _ ?side1 ?side2 A86.out).mono ?_); (case side1 => exact nc_ (rR9 HO_10.out).2.2); (case side2 => exact (rR9 HO_10.out).2.1); rintro e w' ⟨rfl, ⟨nd, rfl⟩⟩; refine ⟨_, rfl, ?_⟩))
         go_ret
         exact ⟨nw_, ne_ HB.out⟩
        rw [if_neg c87] at H
        have c87b0 : decide (t608 < 0) = false := decide_eq_false c87
        clear c87
        by_cases c88 : t608 = t594
        rotate_left
        ·rw [if_neg c88] at H
         have c88b0 : (t608 == t594) = false := beq_eq_false_iff_ne.mpr c88
         have c88b1 : (t608 != t594) = true := bne_iff_ne.mpr c88
         obtain rfl := Option.some.inj H
         go_wp2_with (first | ((with_reducible refine gate_callee (f := 15) rfl ?_); refine gl_ (some 113) Try.func15 #[.slice Ao70 t595.length co70, .int .i64 1] ?_; (with_reducible refine (laws_heldStepS.calls kj68 _ _ t595 1 t608 _ ?side1 ?side2 A86.out).mono ?_); (case side1 => exact nc_ (rR9 HO_10.out).2.2); (case side2 => exact (rR9 HO_10.out).2.1); rintro e w' ⟨rfl, ⟨nd, rfl⟩⟩; refine ⟨_, rfl, ?_⟩))
         go_ret
         exact ⟨nw_, ne_ HB.out⟩
        rw [if_pos c88] at H
        have c88b0 : (t608 == t594) = true := beq_iff_eq.mpr c88
        have c88b1 : (t608 != t594) = false := bne_eq_false_iff_eq.mpr c88
        clear c88
        obtain rfl := Option.some.inj H
        go_wp2_with (first | ((with_reducible refine gate_callee (f := 15) rfl ?_); refine gl_ (some 113) Try.func15 #[.slice Ao70 t595.length co70, .int .i64 1] ?_; (with_reducible refine (laws_heldStepS.calls kj68 _ _ t595 1 t608 _ ?side1 ?side2 A86.out).mono ?_); (case side1 => exact nc_ (rR9 HO_10.out).2.2); (case side2 => exact (rR9 HO_10.out).2.1); rintro e w' ⟨rfl, ⟨nd, rfl⟩⟩; refine ⟨_, rfl, ?_⟩))
        go_ret
        exact ⟨nw_, ne_ HB.out⟩
/-- THE ONE PURE STATEMENT of laws_FnExactStairBest. -/
def laws_FnExactStairBest.Pure : Prop := ∀ (l0 : List (S49)) (l1 : List (S49)), l0.length ≤ maxLen → (∀ x ∈ l0, (Lit.int .i64 x.f0).wf = true ∧ (Lit.int .i64 x.f1).wf = true) → l1.length ≤ maxLen → (∀ x ∈ l1, (Lit.int .i64 x.f0).wf = true ∧ (Lit.int .i64 x.f1).wf = true) → ∃ k, laws_FnExactStairBest.f k l0 l1 = some true
theorem laws_FnExactStairBest.walk (P : laws_FnExactStairBest.Pure) (A0 : Option Addr) (c0 : Nat) (l0 : List (S49)) (A1 : Option Addr) (c1 : Nat) (l1 : List (S49)) (w : World) (hr0 : Kd.C k49 w A0 l0.length l0) (hm0 : l0.length ≤ maxLen) (hw0 : ∀ x ∈ l0, (Lit.int .i64 x.f0).wf = true ∧ (Lit.int .i64 x.f1).wf = true) (hc0 : l0.length ≤ c0) (hr1 : Kd.C k49 w A1 l1.length l1) (hm1 : l1.length ≤ maxLen) (hw1 : ∀ x ∈ l1, (Lit.int .i64 x.f0).wf = true ∧ (Lit.int .i64 x.f1).wf = true) (hc1 : l1.length ≤ c1) :
    Calls Try.prog 9 #[.slice A0 l0.length c0, .slice A1 l1.length c1] w fun e w' => e = .returned (.bool true) ∧ Below w.heap.size w w' := by
  obtain ⟨k, h⟩ := P l0 l1 hm0 hw0 hm1 hw1
  refine (laws_FnExactStairBest.calls k A0 c0 l0 A1 c1 l1 true w hr0 hc0 hr1 hc1 h).mono ?_
  rintro e w' ⟨rfl, hd⟩
  exact ⟨rfl, hd⟩

end Go.Proofs.Ytfpfaaibgaejjaa.Print
