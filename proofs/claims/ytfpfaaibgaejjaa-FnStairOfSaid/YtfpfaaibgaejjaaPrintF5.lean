-- Made by this session's own program (wip/patch_print.py, over the kit's print). Lean checks it.
import Derived.Test.YtfpfaaibgaejjaaPrint0
import Derived.Test.YtfpfaaibgaejjaaPrintF17
import Derived.Test.YtfpfaaibgaejjaaPrintF19
import Derived.Test.YtfpfaaibgaejjaaPrintF20
import Derived.Test.YtfpfaaibgaejjaaPrintF21
import Derived.Test.YtfpfaaibgaejjaaPrintF22
import Derived.Test.YtfpfaaibgaejjaaPrintF23
namespace Go.Proofs.Ytfpfaaibgaejjaa.Print
open Go.RowKit Go.Proofs.YtfpfaaibgaejjaaW.PrintWords Go.Proofs.YtfpfaaibgaejjaaW.PrintLast Go.Proofs.YtfpfaaibgaejjaaW.PrintMore Go.Proofs.YtfpfaaibgaejjaaX
attribute [local go_sem] max2_int min2_int max_two min_two max_three min_three max_four min_four   -- for this text's walks alone
set_option linter.unusedVariables false
set_option linter.unusedSimpArgs false

abbrev rR5 := @Kd.R_reads'
/-! ### laws_FnStairOf: function 5 -/
mutual
def laws_FnStairOf.j0 : Nat → List (S36) → List (S36) → Bool → List (S36) → Bool → Bool → Option (Bool)
  | 0, _, _, _, _, _, _ => none
  | k + 1, x3, x4, x5, x6, x7, x44 => if x44 = true then (if (x5 == x7) = true then ((laws_wkSteps.f k x4 x6).bind fun t325 => (some t325)) else (some false)) else (laws_FnStairOf.l0 k x3 x4 (([] : List (S36))) (wrap64 ((x3.length : Int) - 1)))
def laws_FnStairOf.l0 : Nat → List (S36) → List (S36) → List (S36) → Int → Option (Bool)
  | 0, _, _, _, _ => none
  | k + 1, x3, x4, x8, x9 => if x9 ≥ 0 then (if 0 ≤ x9 then (if x9 < (x3.length : Int) then (if x8.length < 8796093022208 then (laws_FnStairOf.l0 k x3 x4 (x8 ++ [(⟨(rd_T36 x3 x9).f0, (rd_T36 x3 x9).f1⟩ : S36)]) (wrap64 (x9 - 1))) else (none)) else (none)) else (none)) else (laws_FnStairOf.l1 k x3 x4 x8 0)
def laws_FnStairOf.l1 : Nat → List (S36) → List (S36) → List (S36) → Int → Option (Bool)
  | 0, _, _, _, _ => none
  | k + 1, x3, x4, x8, x10 => if x10 ≤ 199 then (laws_FnStairOf.l2 k x3 x4 x8 x10 99999 0) else ((impl_StairOf.f k x8).bind fun bt337 => ((impl_StairOf.f k x4).bind fun bt341 => ((impl_StairOk.f k x4).bind fun t345 => (if t345 = true then ((laws_wkSteps.f k bt337.1 x4).bind fun t346 => (if t346 = true then ((laws_wkSteps.f k bt341.1 x4).bind fun t347 => (some t347)) else (some false))) else (some false)))))
def laws_FnStairOf.l2 : Nat → List (S36) → List (S36) → List (S36) → Int → Int → Int → Option (Bool)
  | 0, _, _, _, _, _, _ => none
  | k + 1, x3, x4, x8, x10, x11, x12 => if x12 < (x3.length : Int) then (if 0 ≤ x12 then (if ((rd_T36 x3 x12).f0) ≥ x10 then (if ((rd_T36 x3 x12).f1) < x11 then (laws_FnStairOf.l2 k x3 x4 x8 x10 ((rd_T36 x3 x12).f1) (wrap64 (x12 + 1))) else (laws_FnStairOf.l2 k x3 x4 x8 x10 x11 (wrap64 (x12 + 1)))) else (laws_FnStairOf.l2 k x3 x4 x8 x10 x11 (wrap64 (x12 + 1)))) else (none)) else ((impl_StairAt.f k x4 x10).bind fun t336 => (if t336 = x11 then (laws_FnStairOf.l1 k x3 x4 x8 (wrap64 (x10 + 1))) else (some false)))
end
def laws_FnStairOf.f (k : Nat) (l0 : List Int) : Option (Bool) := if (l0.length : Int) > 1048576 then (some true) else ((spec_DrawStairOf.f k l0).bind fun t313 => ((impl_StairOf.f k t313).bind fun bt316 => ((spec_StairOf.f k t313).bind fun bt320 => (if (bt316.2 != bt320.2) = true then (laws_FnStairOf.j0 k t313 bt316.1 bt316.2 bt320.1 bt320.2 true) else ((laws_wkSteps.f k bt316.1 bt320.1).bind fun t324 => (if t324 = true then (laws_FnStairOf.j0 k t313 bt316.1 bt316.2 bt320.1 bt320.2 (!bt316.2)) else (laws_FnStairOf.j0 k t313 bt316.1 bt316.2 bt320.1 bt320.2 true)))))))
theorem laws_FnStairOf.mono_l : ∀ k, (∀ y0 y1 y2 y3 y4 y5, LeO (laws_FnStairOf.j0 k y0 y1 y2 y3 y4 y5) (laws_FnStairOf.j0 (k + 1) y0 y1 y2 y3 y4 y5)) ∧ (∀ y0 y1 y2 y3, LeO (laws_FnStairOf.l0 k y0 y1 y2 y3) (laws_FnStairOf.l0 (k + 1) y0 y1 y2 y3)) ∧ (∀ y0 y1 y2 y3, LeO (laws_FnStairOf.l1 k y0 y1 y2 y3) (laws_FnStairOf.l1 (k + 1) y0 y1 y2 y3)) ∧ (∀ y0 y1 y2 y3 y4 y5, LeO (laws_FnStairOf.l2 k y0 y1 y2 y3 y4 y5) (laws_FnStairOf.l2 (k + 1) y0 y1 y2 y3 y4 y5))
  | 0 => ⟨fun _ _ _ _ _ _ r h => by simp [laws_FnStairOf.j0] at h, fun _ _ _ _ r h => by simp [laws_FnStairOf.l0] at h, fun _ _ _ _ r h => by simp [laws_FnStairOf.l1] at h, fun _ _ _ _ _ _ r h => by simp [laws_FnStairOf.l2] at h⟩
  | k + 1 => by
    obtain ⟨ih0, ih1, ih2, ih3⟩ := laws_FnStairOf.mono_l k
    refine ⟨?_, ?_, ?_, ?_⟩
    · intro y0 y1 y2 y3 y4 y5
      unfold laws_FnStairOf.j0
      repeat' first | (with_reducible first | exact ih0 _ _ _ _ _ _ | exact ih1 _ _ _ _ | exact ih2 _ _ _ _ | exact ih3 _ _ _ _ _ _ | exact impl_StairAt.mono _ _ _ | exact impl_StairOf.mono _ _ | exact impl_StairOk.mono _ _ | exact laws_wkSteps.mono _ _ _ | exact spec_DrawStairOf.mono _ _ | exact spec_StairOf.mono _ _ | exact LeO.refl _ | exact LeO.none _ | refine LeO.ite ?_ ?_ | refine LeO.bind ?_ (fun _ => ?_)) | exact ih0 _ _ _ _ _ _ | exact ih1 _ _ _ _ | exact ih2 _ _ _ _ | exact ih3 _ _ _ _ _ _ | exact impl_StairAt.mono _ _ _ | exact impl_StairOf.mono _ _ | exact impl_StairOk.mono _ _ | exact laws_wkSteps.mono _ _ _ | exact spec_DrawStairOf.mono _ _ | exact spec_StairOf.mono _ _ | exact LeO.none _ | refine LeO.ite ?_ ?_ | refine LeO.bind ?_ (fun _ => ?_)
    · intro y0 y1 y2 y3
      unfold laws_FnStairOf.l0
      repeat' first | (with_reducible first | exact ih0 _ _ _ _ _ _ | exact ih1 _ _ _ _ | exact ih2 _ _ _ _ | exact ih3 _ _ _ _ _ _ | exact impl_StairAt.mono _ _ _ | exact impl_StairOf.mono _ _ | exact impl_StairOk.mono _ _ | exact laws_wkSteps.mono _ _ _ | exact spec_DrawStairOf.mono _ _ | exact spec_StairOf.mono _ _ | exact LeO.refl _ | exact LeO.none _ | refine LeO.ite ?_ ?_ | refine LeO.bind ?_ (fun _ => ?_)) | exact ih0 _ _ _ _ _ _ | exact ih1 _ _ _ _ | exact ih2 _ _ _ _ | exact ih3 _ _ _ _ _ _ | exact impl_StairAt.mono _ _ _ | exact impl_StairOf.mono _ _ | exact impl_StairOk.mono _ _ | exact laws_wkSteps.mono _ _ _ | exact spec_DrawStairOf.mono _ _ | exact spec_StairOf.mono _ _ | exact LeO.none _ | refine LeO.ite ?_ ?_ | refine LeO.bind ?_ (fun _ => ?_)
    · intro y0 y1 y2 y3
      unfold laws_FnStairOf.l1
      repeat' first | (with_reducible first | exact ih0 _ _ _ _ _ _ | exact ih1 _ _ _ _ | exact ih2 _ _ _ _ | exact ih3 _ _ _ _ _ _ | exact impl_StairAt.mono _ _ _ | exact impl_StairOf.mono _ _ | exact impl_StairOk.mono _ _ | exact laws_wkSteps.mono _ _ _ | exact spec_DrawStairOf.mono _ _ | exact spec_StairOf.mono _ _ | exact LeO.refl _ | exact LeO.none _ | refine LeO.ite ?_ ?_ | refine LeO.bind ?_ (fun _ => ?_)) | exact ih0 _ _ _ _ _ _ | exact ih1 _ _ _ _ | exact ih2 _ _ _ _ | exact ih3 _ _ _ _ _ _ | exact impl_StairAt.mono _ _ _ | exact impl_StairOf.mono _ _ | exact impl_StairOk.mono _ _ | exact laws_wkSteps.mono _ _ _ | exact spec_DrawStairOf.mono _ _ | exact spec_StairOf.mono _ _ | exact LeO.none _ | refine LeO.ite ?_ ?_ | refine LeO.bind ?_ (fun _ => ?_)
    · intro y0 y1 y2 y3 y4 y5
      unfold laws_FnStairOf.l2
      repeat' first | (with_reducible first | exact ih0 _ _ _ _ _ _ | exact ih1 _ _ _ _ | exact ih2 _ _ _ _ | exact ih3 _ _ _ _ _ _ | exact impl_StairAt.mono _ _ _ | exact impl_StairOf.mono _ _ | exact impl_StairOk.mono _ _ | exact laws_wkSteps.mono _ _ _ | exact spec_DrawStairOf.mono _ _ | exact spec_StairOf.mono _ _ | exact LeO.refl _ | exact LeO.none _ | refine LeO.ite ?_ ?_ | refine LeO.bind ?_ (fun _ => ?_)) | exact ih0 _ _ _ _ _ _ | exact ih1 _ _ _ _ | exact ih2 _ _ _ _ | exact ih3 _ _ _ _ _ _ | exact impl_StairAt.mono _ _ _ | exact impl_StairOf.mono _ _ | exact impl_StairOk.mono _ _ | exact laws_wkSteps.mono _ _ _ | exact spec_DrawStairOf.mono _ _ | exact spec_StairOf.mono _ _ | exact LeO.none _ | refine LeO.ite ?_ ?_ | refine LeO.bind ?_ (fun _ => ?_)
theorem laws_FnStairOf.mono : ∀ a0 k, LeO (laws_FnStairOf.f k a0) (laws_FnStairOf.f (k + 1) a0) := by
  intro a0 k
  obtain ⟨ih0, ih1, ih2, ih3⟩ := laws_FnStairOf.mono_l k
  unfold laws_FnStairOf.f
  repeat' first | (with_reducible first | exact ih0 _ _ _ _ _ _ | exact ih1 _ _ _ _ | exact ih2 _ _ _ _ | exact ih3 _ _ _ _ _ _ | exact impl_StairAt.mono _ _ _ | exact impl_StairOf.mono _ _ | exact impl_StairOk.mono _ _ | exact laws_wkSteps.mono _ _ _ | exact spec_DrawStairOf.mono _ _ | exact spec_StairOf.mono _ _ | exact LeO.refl _ | exact LeO.none _ | refine LeO.ite ?_ ?_ | refine LeO.bind ?_ (fun _ => ?_)) | exact ih0 _ _ _ _ _ _ | exact ih1 _ _ _ _ | exact ih2 _ _ _ _ | exact ih3 _ _ _ _ _ _ | exact impl_StairAt.mono _ _ _ | exact impl_StairOf.mono _ _ | exact impl_StairOk.mono _ _ | exact laws_wkSteps.mono _ _ _ | exact spec_DrawStairOf.mono _ _ | exact spec_StairOf.mono _ _ | exact LeO.none _ | refine LeO.ite ?_ ?_ | refine LeO.bind ?_ (fun _ => ?_)
set_option maxHeartbeats 200000000 in
set_option maxRecDepth 100000 in
theorem laws_FnStairOf.calls (k : Nat) (A0 : Option Addr) (c0 : Nat) (l0 : List Int) (r : Bool) (w : World) (hr0 : Kd.C (Kd.int .u8) w A0 l0.length l0) (hc0 : l0.length ≤ c0) (h : laws_FnStairOf.f k l0 = some r) :
    Calls Try.prog 5 #[.slice A0 l0.length c0] w fun e w' => e = .returned (.bool r) ∧ Below w.heap.size w w' := by
  have hu36 := Try.underlying36
  have HR0 := Aside0.mk hr0
  have HC0 := Aside0.mk hc0
  clear hr0 hc0
  have HB := Aside0.mk (Below.refl w.heap.size w)
  have H : (if (l0.length : Int) > 1048576 then (some true) else ((spec_DrawStairOf.f k l0).bind fun t313 => ((impl_StairOf.f k t313).bind fun bt316 => ((spec_StairOf.f k t313).bind fun bt320 => (if (bt316.2 != bt320.2) = true then (laws_FnStairOf.j0 k t313 bt316.1 bt316.2 bt320.1 bt320.2 true) else ((laws_wkSteps.f k bt316.1 bt320.1).bind fun t324 => (if t324 = true then (laws_FnStairOf.j0 k t313 bt316.1 bt316.2 bt320.1 bt320.2 (!bt316.2)) else (laws_FnStairOf.j0 k t313 bt316.1 bt316.2 bt320.1 bt320.2 true)))))))) = some r := h
  clear h
  by_cases c2 : (l0.length : Int) > 1048576
  ·rw [if_pos c2] at H
   have c2b0 : decide (1048576 < (l0.length : Int)) = true := decide_eq_true c2
   have c2b1 : decide (1048576 < l0.length) = true := decide_eq_true (by omega)
   clear c2
   obtain rfl := Option.some.inj H
   go_enter Try.func5, Try.ntmps5
   go_wp2
   go_ret
   exact ⟨nw_, ne_ HB.out⟩
  rw [if_neg c2] at H
  have c2b0 : decide (1048576 < (l0.length : Int)) = false := decide_eq_false c2
  have c2b1 : decide (1048576 < l0.length) = false := decide_eq_false (by omega)
  clear c2
  replace H := Option.bind_eq_some_iff.mp H
  obtain ⟨t313, A30, H⟩ := H
  try dsimp only at H
  have A3 := Aside0.mk A30
  clear A30
  replace H := Option.bind_eq_some_iff.mp H
  obtain ⟨⟨t316, t317⟩, A40, H⟩ := H
  try dsimp only at H
  have A4 := Aside0.mk A40
  clear A40
  replace H := Option.bind_eq_some_iff.mp H
  obtain ⟨⟨t320, t321⟩, A50, H⟩ := H
  try dsimp only at H
  have A5 := Aside0.mk A50
  clear A50
  have HC6 := Aside0.mk H
  clear H
  go_enter Try.func5, Try.ntmps5
  go_upto_region 6 with (first | ((with_reducible refine gate_callee (f := 20) rfl ?_); refine gl_ (some 21) Try.func20 #[.slice A0 l0.length c0] ?_; (with_reducible refine (spec_DrawStairOf.calls k _ _ l0 t313 _ ?side1 ?side2 A3.out).mono ?_); (case side1 => repeat (first | exact HR0.out | (with_reducible refine Kd.C_alloc ?_ _) | (with_reducible refine Kd.C_drewN ?_ _) | (with_reducible refine Kd.C_drew ?_))); (case side2 => exact HC0.out); rintro e w7 ⟨v314, rfl, ho0, hb⟩; refine ⟨_, rfl, ?_⟩; have HO315 := Aside0.mk (Kd.R_lower ho0 (below_size (ne_ HB.out))); replace HB := kB_ HB hb; (try clear hb); (try clear hb2); (try clear hk); (try clear hi); (try clear ho0); obtain ⟨Ao8, co8, eo8⟩ := Kd.R_slice HO315.out; subst eo8) | ((with_reducible refine gate_callee (f := 19) rfl ?_); refine gl_ (some 24) Try.func19 #[.slice Ao8 t313.length co8] ?_; (with_reducible refine (impl_StairOf.calls k _ _ t313 t316 t317 _ ?side1 ?side2 A4.out).mono ?_); (case side1 => exact nc_ (rR5 HO315.out).2.2); (case side2 => exact (rR5 HO315.out).2.1); rintro e w9 ⟨v318, rfl, ho0, hb⟩; refine ⟨_, rfl, ?_⟩; have HO319 := Aside0.mk (Kd.R_lower (Kd.R_new' ho0 (Kd.R_lt (nr_ HO315.out))) (below_size (ne_ HB.out))); replace HO315 := Aside0.mk (Kd.R_elder' (nr_ HO315.out) (Kd.R_base ho0) hb); replace HB := kB_ HB hb; (try clear hb); (try clear hb2); (try clear hk); (try clear hi); (try clear ho0)) | ((with_reducible refine gate_callee (f := 17) rfl ?_); refine gl_ (some 29) Try.func17 #[.slice Ao8 t313.length co8] ?_; (with_reducible refine (spec_StairOf.calls k _ _ t313 t320 t321 _ ?side1 ?side2 A5.out).mono ?_); (case side1 => exact nc_ (rR5 HO315.out).2.2); (case side2 => exact (rR5 HO315.out).2.1); rintro e w10 ⟨v322, rfl, ho0, hb⟩; refine ⟨_, rfl, ?_⟩; have HO323 := Aside0.mk (Kd.R_lower (Kd.R_new' (Kd.R_new' ho0 (Kd.R_lt (nr_ HO315.out))) (Kd.R_lt (nr_ HO319.out))) (below_size (ne_ HB.out))); replace HO315 := Aside0.mk (Kd.R_elder' (nr_ HO315.out) (Kd.R_base ho0) hb); replace HO319 := Aside0.mk (Kd.R_elder' (nr_ HO319.out) (Kd.R_base ho0) hb); replace HB := kB_ HB hb; (try clear hb); (try clear hb2); (try clear hk); (try clear hi); (try clear ho0)))
  (try simp only [Act.put, List.setIfInBounds_toArray, List.set_cons_zero, List.set_cons_succ])
  go_cut [44] (fun v44 wc => ∃ (kq : Nat) (x44_5 : Bool), v44 = .bool x44_5 ∧ Aside0 (laws_FnStairOf.j0 kq t313 t316 t317 t320 t321 x44_5 = some r) ∧ Aside0 (kq ≤ k) ∧ Aside0 (Kd.R k36 36 wc w.heap.size (fun k_ => some k_ ≠ (v318 : Value).ownBlock ∧ some k_ ≠ (v322 : Value).ownBlock) (.slice Ao8 t313.length co8) t313) ∧ Aside0 (Kd.R k36 36 wc w.heap.size (fun k_ => some k_ ≠ ((.slice Ao8 t313.length co8) : Value).ownBlock ∧ some k_ ≠ (v322 : Value).ownBlock) v318 t316) ∧ Aside0 (Kd.R k36 36 wc w.heap.size (fun k_ => some k_ ≠ ((.slice Ao8 t313.length co8) : Value).ownBlock ∧ some k_ ≠ (v318 : Value).ownBlock) v322 t320) ∧ Aside0 (Below w.heap.size w wc))
  case first =>
   have H := HC6.out
   clear HC6
   by_cases c11 : (t317 != t321) = true
   ·rw [if_pos c11] at H
    have c11b0 : (t317 != t321) = true := c11
    (try (have c11b1 : decide (t317 = t321) = false := by simpa using c11))
    (try (have c11b2 : (t317 == t321) = false := by simpa using c11))
    (try (have c11b3 : ¬ (t317 = t321) := by simpa using c11))
    clear c11
    (first | rw [c11b0] | (simp only [i64_w, i32_w]; rw [c11b0]) | skip)
    have H' := Aside0.mk H
    clear H
    go_wp2
    go_meet
    case rel => exact ⟨_, (true), ns_, H', ⟨by first | omega | exact Nat.le_refl _⟩, ⟨by (with_reducible repeat (first | apply Kd.R_alloc | apply Kd.R_drewN | apply Kd.R_drew)); exact Kd.R_mono HO315.out (fun _ hk => by first | exact ⟨hk.1.2, hk.2⟩ | trivial | simp_all)⟩, ⟨by (with_reducible repeat (first | apply Kd.R_alloc | apply Kd.R_drewN | apply Kd.R_drew)); exact Kd.R_mono HO319.out (fun _ hk => by first | exact ⟨hk.1.2, hk.2⟩ | trivial | simp_all)⟩, ⟨by (with_reducible repeat (first | apply Kd.R_alloc | apply Kd.R_drewN | apply Kd.R_drew)); exact Kd.R_mono HO323.out (fun _ hk => by first | exact ⟨hk.1.2, hk.2⟩ | trivial | simp_all)⟩, ⟨ne_ HB.out⟩⟩
   rw [if_neg c11] at H
   have c11b0 : (t317 != t321) = false := by simpa using c11
   (try (have c11b1 : decide (t317 = t321) = true := by simpa using c11))
   (try (have c11b2 : (t317 == t321) = true := by simpa using c11))
   clear c11
   (first | rw [c11b0] | (simp only [i64_w, i32_w]; rw [c11b0]) | skip)
   replace H := Option.bind_eq_some_iff.mp H
   obtain ⟨t324, A120, H⟩ := H
   try dsimp only at H
   have A12 := Aside0.mk A120
   clear A120
   by_cases c13 : t324 = true
   ·subst c13
    have H1 : (laws_FnStairOf.j0 k t313 t316 t317 t320 t321 (!t317)) = some r := by rw [if_pos rfl] at H; exact H
    clear H
    have H := H1
    clear H1
    have H' := Aside0.mk H
    clear H
    obtain ⟨Ao14, co14, eo14⟩ := Kd.R_slice HO319.out
    subst eo14
    obtain ⟨Ao15, co15, eo15⟩ := Kd.R_slice HO323.out
    subst eo15
    go_wp2_with (first | (go_at_call 21; (with_reducible refine (laws_wkSteps.calls k _ _ t316 _ _ t320 true _ ?side1 ?side2 ?side3 ?side4 A12.out).mono ?_); (case side1 => exact nc_ (rR5 HO319.out).2.2); (case side2 => exact (rR5 HO319.out).2.1); (case side3 => exact nc_ (rR5 HO323.out).2.2); (case side4 => exact (rR5 HO323.out).2.1); rintro e w' ⟨rfl, ⟨nd, rfl⟩⟩))
    go_meet
    case rel => exact ⟨_, (!t317), ns_, H', ⟨by first | omega | exact Nat.le_refl _⟩, ⟨by (with_reducible repeat (first | apply Kd.R_alloc | apply Kd.R_drewN | apply Kd.R_drew)); exact Kd.R_mono HO315.out (fun _ hk => by first | exact ⟨hk.1.2, hk.2⟩ | trivial | simp_all)⟩, ⟨by (with_reducible repeat (first | apply Kd.R_alloc | apply Kd.R_drewN | apply Kd.R_drew)); exact Kd.R_mono HO319.out (fun _ hk => by first | exact ⟨hk.1.2, hk.2⟩ | trivial | simp_all)⟩, ⟨by (with_reducible repeat (first | apply Kd.R_alloc | apply Kd.R_drewN | apply Kd.R_drew)); exact Kd.R_mono HO323.out (fun _ hk => by first | exact ⟨hk.1.2, hk.2⟩ | trivial | simp_all)⟩, ⟨ne_ HB.out⟩⟩
   replace c13 := Bool.eq_false_iff.mpr c13
   subst c13
   have H1 : (laws_FnStairOf.j0 k t313 t316 t317 t320 t321 true) = some r := by rw [if_neg (show ¬ (false = true) by decide)] at H; exact H
   clear H
   have H := H1
   clear H1
   have H' := Aside0.mk H
   clear H
   obtain ⟨Ao16, co16, eo16⟩ := Kd.R_slice HO319.out
   subst eo16
   obtain ⟨Ao17, co17, eo17⟩ := Kd.R_slice HO323.out
   subst eo17
   go_wp2_with (first | (go_at_call 21; (with_reducible refine (laws_wkSteps.calls k _ _ t316 _ _ t320 false _ ?side1 ?side2 ?side3 ?side4 A12.out).mono ?_); (case side1 => exact nc_ (rR5 HO319.out).2.2); (case side2 => exact (rR5 HO319.out).2.1); (case side3 => exact nc_ (rR5 HO323.out).2.2); (case side4 => exact (rR5 HO323.out).2.1); rintro e w' ⟨rfl, ⟨nd, rfl⟩⟩))
   go_meet
   case rel => exact ⟨_, (true), ns_, H', ⟨by first | omega | exact Nat.le_refl _⟩, ⟨by (with_reducible repeat (first | apply Kd.R_alloc | apply Kd.R_drewN | apply Kd.R_drew)); exact Kd.R_mono HO315.out (fun _ hk => by first | exact ⟨hk.1.2, hk.2⟩ | trivial | simp_all)⟩, ⟨by (with_reducible repeat (first | apply Kd.R_alloc | apply Kd.R_drewN | apply Kd.R_drew)); exact Kd.R_mono HO319.out (fun _ hk => by first | exact ⟨hk.1.2, hk.2⟩ | trivial | simp_all)⟩, ⟨by (with_reducible repeat (first | apply Kd.R_alloc | apply Kd.R_drewN | apply Kd.R_drew)); exact Kd.R_mono HO323.out (fun _ hk => by first | exact ⟨hk.1.2, hk.2⟩ | trivial | simp_all)⟩, ⟨ne_ HB.out⟩⟩
  case rest =>
   clear HC6
   try clear c2
   try clear c2b0
   try clear c2b1
   obtain ⟨kq, x44_5, rfl, HA, HJ5, HO_3, HO_4, HO_6, HB⟩ := hcut
   cases kq with
   | zero => exact absurd HA.out (by simp [laws_FnStairOf.j0])
   | succ kj5 =>
    have H := HA.out
    clear HA
    simp only [laws_FnStairOf.j0] at H
    by_cases c18 : x44_5 = true
    ·subst c18
     rw [if_pos rfl] at H
     by_cases c19 : (t317 == t321) = true
     rotate_left
     ·rw [if_neg c19] at H
      have c19b0 : (t317 == t321) = false := by simpa using c19
      (try (have c19b1 : decide (t317 = t321) = false := by simpa using c19))
      (try (have c19b2 : (t317 == t321) = false := by simpa using c19))
      (try (have c19b3 : ¬ (t317 = t321) := by simpa using c19))
      clear c19
      obtain rfl := Option.some.inj H
      go_wp2
      go_ret
      exact ⟨nw_, ne_ HB.out⟩
     rw [if_pos c19] at H
     have c19b0 : (t317 == t321) = true := c19
     (try (have c19b1 : decide (t317 = t321) = true := by simpa using c19))
     (try (have c19b2 : (t317 == t321) = true := by simpa using c19))
     clear c19
     replace H := Option.bind_eq_some_iff.mp H
     obtain ⟨t325, A200, H⟩ := H
     replace H : (some t325) = some r := H
     have A20 := Aside0.mk A200
     clear A200
     obtain rfl := Option.some.inj H
     obtain ⟨Ao21, co21, eo21⟩ := Kd.R_slice HO_4.out
     subst eo21
     obtain ⟨Ao22, co22, eo22⟩ := Kd.R_slice HO_6.out
     subst eo22
     go_wp2_with (first | (go_at_call 21; (with_reducible refine (laws_wkSteps.calls kj5 _ _ t316 _ _ t320 t325 _ ?side1 ?side2 ?side3 ?side4 A20.out).mono ?_); (case side1 => exact nc_ (rR5 HO_4.out).2.2); (case side2 => exact (rR5 HO_4.out).2.1); (case side3 => exact nc_ (rR5 HO_6.out).2.2); (case side4 => exact (rR5 HO_6.out).2.1); rintro e w' ⟨rfl, ⟨nd, rfl⟩⟩))
     go_ret
     exact ⟨nw_, ne_ HB.out⟩
    replace c18 := Bool.eq_false_iff.mpr c18
    subst c18
    have H1 : (laws_FnStairOf.l0 kj5 t313 t316 (([] : List (S36))) (wrap64 ((t313.length : Int) - 1))) = some r := by rw [if_neg (show ¬ (false = true) by decide)] at H; exact H
    clear H
    have H := H1
    clear H1
    obtain ⟨y326, hy326⟩ : ∃ y_ : List (S36), y_ = (([] : List (S36))) := ⟨_, rfl⟩
    replace H : (laws_FnStairOf.l0 kj5 t313 t316 y326 (wrap64 ((t313.length : Int) - 1))) = some r := by first | (rw [hy326]; with_reducible exact H) | (have H2_ := (Option.bind_some _ _).symm.trans H; rw [hy326]; with_reducible exact H2_) | (have H2_ := (Option.bind_some _ _).symm.trans H; with_reducible exact H2_) | with_reducible exact H | (rw [hy326]; exact H) | exact H
    have Ny326 := Aside0.mk hy326
    clear hy326
    have H' := Aside0.mk H
    clear H
    go_wp2_with (first | ((with_reducible refine gate_dst (N := 53) rfl ?_); refine Kd.R_lit k36 _ 36 ?hg (N := 53) ?hd (xs := ([] : List (S36))) (inner := []) (ok := fun _ => True) (okp := fun _ => True) ?hr ?hp (fun _ hk => hk) trivial (Below.refl _ _) (Nat.le_refl _) (by simp) ?_; (case hd => rfl); (case hg => rfl); (case hr => first | (go_simp; done) | (go_simp; rfl)); (case hp => exact (Reps.none _ _)); intro v327 w23 ho24 hb hg_ hnew_; clear hg_ hnew_; (first | rw [← Ny326.out] at ho24 | (simp only [Int.reduceToNat] at ho24; rw [← Ny326.out] at ho24)); have HO328 := Aside0.mk (Kd.R_lower (Kd.R_new' (Kd.R_new' (Kd.R_new' ho24 (Kd.R_lt (nr_ HO_3.out))) (Kd.R_lt (nr_ HO_4.out))) (Kd.R_lt (nr_ HO_6.out))) (below_size (ne_ HB.out))); replace HO_3 := Aside0.mk (Kd.R_elder' (nr_ HO_3.out) (Kd.R_base ho24) hb); replace HO_4 := Aside0.mk (Kd.R_elder' (nr_ HO_4.out) (Kd.R_base ho24) hb); replace HO_6 := Aside0.mk (Kd.R_elder' (nr_ HO_6.out) (Kd.R_base ho24) hb); replace HB := kB_ HB hb; clear hb ho24))
    go_loopg [8, 9] kj5 (fun kq v8 v9 w' => ∃ (x8_2 : List (S36)) (x9_2 : Int), v9 = .int .i64 x9_2 ∧ Aside0 (laws_FnStairOf.l0 kq t313 t316 x8_2 x9_2 = some r) ∧ Aside0 (kq ≤ kj5) ∧ Aside0 (Kd.R k36 36 w' w.heap.size (fun k_ => some k_ ≠ (v318 : Value).ownBlock ∧ some k_ ≠ (v8 : Value).ownBlock) (.slice Ao8 t313.length co8) t313) ∧ Aside0 (Kd.R k36 36 w' w.heap.size (fun k_ => some k_ ≠ ((.slice Ao8 t313.length co8) : Value).ownBlock ∧ some k_ ≠ (v8 : Value).ownBlock) v318 t316) ∧ Aside0 (Kd.R k36 36 w' w.heap.size (fun k_ => some k_ ≠ ((.slice Ao8 t313.length co8) : Value).ownBlock ∧ some k_ ≠ (v318 : Value).ownBlock) v8 x8_2) ∧ Aside0 (Below w.heap.size w w'))
    case atStart => exact ⟨(y326), (wrap64 ((t313.length : Int) - 1)), ns_, H', ⟨Nat.le_refl _⟩, ⟨by (with_reducible repeat (first | apply Kd.R_alloc | apply Kd.R_drewN | apply Kd.R_drew)); exact Kd.R_mono HO_3.out (fun _ hk => by first | exact ⟨hk.1.1, hk.2⟩ | trivial | simp_all)⟩, ⟨by (with_reducible repeat (first | apply Kd.R_alloc | apply Kd.R_drewN | apply Kd.R_drew)); exact Kd.R_mono HO_4.out (fun _ hk => by first | exact ⟨hk.1.1, hk.2⟩ | trivial | simp_all)⟩, ⟨by (with_reducible repeat (first | apply Kd.R_alloc | apply Kd.R_drewN | apply Kd.R_drew)); exact Kd.R_mono HO328.out (fun _ hk => by first | exact ⟨hk.1.1.2, hk.1.2⟩ | trivial | simp_all)⟩, ⟨ne_ HB.out⟩⟩
    case round =>
     clear H'
     try clear c2
     try clear c2b0
     try clear c2b1
     try clear c18
     obtain ⟨x8_2, x9_2, rfl, HA, HK2, HO_3, HO_4, HO_8, HB⟩ := hrel
     cases gk with
     | zero => exact absurd HA.out (by simp [laws_FnStairOf.l0])
     | succ k2 =>
      have H := HA.out
      clear HA
      simp only [laws_FnStairOf.l0] at H
      by_cases c25 : x9_2 ≥ 0
      ·rw [if_pos c25] at H
       have c25b0 : decide (0 ≤ x9_2) = true := decide_eq_true c25
       clear c25
       by_cases c26 : 0 ≤ x9_2
       rotate_left
       ·rw [if_neg c26] at H
        exact absurd H (by simp)
       rw [if_pos c26] at H
       have c26b0 : decide (0 ≤ x9_2) = true := decide_eq_true c26
       clear c26
       by_cases c27 : x9_2 < (t313.length : Int)
       rotate_left
       ·rw [if_neg c27] at H
        exact absurd H (by simp)
       rw [if_pos c27] at H
       have c27b0 : decide (x9_2 < (t313.length : Int)) = true := decide_eq_true c27
       clear c27
       by_cases c28 : x8_2.length < 8796093022208
       rotate_left
       ·rw [if_neg c28] at H
        exact absurd H (by simp)
       rw [if_pos c28] at H
       have LMc28 := Aside0.mk c28
       clear c28
       obtain ⟨y330, hy330⟩ : ∃ y_ : List (S36), y_ = (x8_2 ++ [(⟨(rd_T36 t313 x9_2).f0, (rd_T36 t313 x9_2).f1⟩ : S36)]) := ⟨_, rfl⟩
       replace H : (laws_FnStairOf.l0 k2 t313 t316 y330 (wrap64 (x9_2 - 1))) = some r := by first | (rw [hy330]; with_reducible exact H) | (have H2_ := (Option.bind_some _ _).symm.trans H; rw [hy330]; with_reducible exact H2_) | (have H2_ := (Option.bind_some _ _).symm.trans H; with_reducible exact H2_) | with_reducible exact H | (rw [hy330]; exact H) | exact H
       have Ny330 := Aside0.mk hy330
       clear hy330
       have H' := Aside0.mk H
       clear H
       have p329 : 0 ≤ (x9_2 : Int) := of_decide_eq_true nx_
       have q329 : x9_2 < (t313.length : Int) := of_decide_eq_true nx_
       obtain ⟨ad329, e329, hx329_0, hx329_1⟩ := at_T36 (rR5 HO_3.out).2.2 x9_2 p329 q329
       cases e329
       replace p329 := eq_true p329
       replace q329 := eq_true q329
       go_wp2_with (first | ((with_reducible refine gate_builtin (b := .append) (xs := #[.tmp 61, .tmp 66]) rfl ?_); at_builtin; refine Kd.R_append k36 (w0 := w) w.heap.size rfl (.tmp 61) (.tmp 66) 22 36 (.agg #[(.int .i64 0), (.int .i64 0)]) 16 rfl Try.underlying22 info36 rfl (by decide) (by omega) u8 x8_2 (⟨(rd_T36 t313 x9_2).f0, (rd_T36 t313 x9_2).f1⟩ : S36) [.int .i64 ((rd_T36 t313 x9_2).f0), .int .i64 ((rd_T36 t313 x9_2).f1)] (fun k_ => some k_ ≠ (.slice (some ad329) t313.length co8 : Value).ownBlock ∧ some k_ ≠ (v318 : Value).ownBlock) (fun _ => False) rfl rfl ?aP (fun _ hk => hk.elim) ?aF ?aO ?aB ?aS ?aL ?_; (case aP => exact k36_mkM _ _ _ (⟨(rd_T36 t313 x9_2).f0, (rd_T36 t313 x9_2).f1⟩ : S36)); (case aB => exact (ne_ HB.out)); (case aF => exact (fun k_ hk => ⟨Kd.fresh' (Kd.R_lt (nr_ HO_3.out)) k_ hk, Kd.fresh' (Kd.R_lt (nr_ HO_4.out)) k_ hk⟩)); (case aO => exact (nr_ HO_8.out)); (case aS => exact (below_size (ne_ HB.out))); (case aL => have := LMc28.out; omega); intro v331 w29 ho hb hg hat; rw [← Ny330.out] at ho; have HO332 := Aside0.mk (ho); replace HO_3 := Aside0.mk (Kd.R_after (ok := (fun k_ => some k_ ≠ (v318 : Value).ownBlock)) (nr_ HO_3.out) hg hat); replace HO_4 := Aside0.mk (Kd.R_after (ok := (fun k_ => some k_ ≠ (.slice (some ad329) t313.length co8 : Value).ownBlock)) (nr_ HO_4.out) hg hat); replace HB := Aside0.mk (hb); clear HO_8; clear ho hb hg hat))
       go_roundg k2
       case measure => have := HJ5.out; have := HK2.out; omega
       case rel => exact ⟨(y330), (wrap64 (x9_2 - 1)), ns_, H', ⟨by have := HJ5.out; have := HK2.out; omega⟩, ⟨nr_ HO_3.out⟩, ⟨nr_ HO_4.out⟩, ⟨nr_ HO332.out⟩, ⟨ne_ HB.out⟩⟩
      rw [if_neg c25] at H
      have c25b0 : decide (0 ≤ x9_2) = false := decide_eq_false c25
      clear c25
      have H' := Aside0.mk H
      clear H
      go_wp2
      go_loopg [10] k2 (fun kq v10 w' => ∃ (x10_3 : Int), v10 = .int .i64 x10_3 ∧ Aside0 (laws_FnStairOf.l1 kq t313 t316 x8_2 x10_3 = some r) ∧ Aside0 (kq ≤ k2) ∧ Aside0 (Kd.R k36 36 w' w.heap.size (fun k_ => some k_ ≠ (v318 : Value).ownBlock ∧ some k_ ≠ (u8 : Value).ownBlock) (.slice Ao8 t313.length co8) t313) ∧ Aside0 (Kd.R k36 36 w' w.heap.size (fun k_ => some k_ ≠ ((.slice Ao8 t313.length co8) : Value).ownBlock ∧ some k_ ≠ (u8 : Value).ownBlock) v318 t316) ∧ Aside0 (Kd.R k36 36 w' w.heap.size (fun k_ => some k_ ≠ ((.slice Ao8 t313.length co8) : Value).ownBlock ∧ some k_ ≠ (v318 : Value).ownBlock) u8 x8_2) ∧ Aside0 (Below w.heap.size w w'))
      case atStart => exact ⟨(0), ns_, H', ⟨Nat.le_refl _⟩, ⟨nr_ HO_3.out⟩, ⟨nr_ HO_4.out⟩, ⟨nr_ HO_8.out⟩, ⟨ne_ HB.out⟩⟩
      case round =>
       clear H'
       try clear c2
       try clear c2b0
       try clear c2b1
       try clear c18
       try clear c25
       try clear c25b0
       obtain ⟨x10_3, rfl, HA, HK3, HO_3, HO_4, HO_8, HB⟩ := hrel
       cases gk with
       | zero => exact absurd HA.out (by simp [laws_FnStairOf.l1])
       | succ k3 =>
        have H := HA.out
        clear HA
        simp only [laws_FnStairOf.l1] at H
        by_cases c30 : x10_3 ≤ 199
        ·rw [if_pos c30] at H
         have c30b0 : decide (x10_3 ≤ 199) = true := decide_eq_true c30
         clear c30
         have H' := Aside0.mk H
         clear H
         go_wp2
         go_loopg [11, 12] k3 (fun kq v11 v12 w' => ∃ (x11_4 : Int) (x12_4 : Int), v11 = .int .i64 x11_4 ∧ v12 = .int .i64 x12_4 ∧ Aside0 (laws_FnStairOf.l2 kq t313 t316 x8_2 x10_3 x11_4 x12_4 = some r) ∧ Aside0 (kq ≤ k3) ∧ Aside0 (Kd.R k36 36 w' w.heap.size (fun k_ => some k_ ≠ (v318 : Value).ownBlock ∧ some k_ ≠ (u8 : Value).ownBlock) (.slice Ao8 t313.length co8) t313) ∧ Aside0 (Kd.R k36 36 w' w.heap.size (fun k_ => some k_ ≠ ((.slice Ao8 t313.length co8) : Value).ownBlock ∧ some k_ ≠ (u8 : Value).ownBlock) v318 t316) ∧ Aside0 (Kd.R k36 36 w' w.heap.size (fun k_ => some k_ ≠ ((.slice Ao8 t313.length co8) : Value).ownBlock ∧ some k_ ≠ (v318 : Value).ownBlock) u8 x8_2) ∧ Aside0 (Below w.heap.size w w'))
         case atStart => exact ⟨(99999), (0), ns_, ns_, H', ⟨Nat.le_refl _⟩, ⟨nr_ HO_3.out⟩, ⟨nr_ HO_4.out⟩, ⟨nr_ HO_8.out⟩, ⟨ne_ HB.out⟩⟩
         case round =>
          clear H'
          try clear c2
          try clear c2b0
          try clear c2b1
          try clear c18
          try clear c25
          try clear c25b0
          try clear c30
          try clear c30b0
          obtain ⟨x11_4, x12_4, rfl, rfl, HA, HK4, HO_3, HO_4, HO_8, HB⟩ := hrel
          cases gk with
          | zero => exact absurd HA.out (by simp [laws_FnStairOf.l2])
          | succ k4 =>
           have H := HA.out
           clear HA
           simp only [laws_FnStairOf.l2] at H
           by_cases c31 : x12_4 < (t313.length : Int)
           rotate_left
           ·rw [if_neg c31] at H
            have c31b0 : decide (x12_4 < (t313.length : Int)) = false := decide_eq_false c31
            clear c31
            replace H := Option.bind_eq_some_iff.mp H
            obtain ⟨t336, A350, H⟩ := H
            replace H : (if t336 = x11_4 then (laws_FnStairOf.l1 k4 t313 t316 x8_2 (wrap64 (x10_3 + 1))) else (some false)) = some r := H
            have A35 := Aside0.mk A350
            clear A350
            by_cases c36 : t336 = x11_4
            rotate_left
            ·rw [if_neg c36] at H
             have c36b0 : (t336 == x11_4) = false := beq_eq_false_iff_ne.mpr c36
             have c36b1 : (t336 != x11_4) = true := bne_iff_ne.mpr c36
             obtain rfl := Option.some.inj H
             obtain ⟨Ao39, co39, eo39⟩ := Kd.R_slice HO_4.out
             subst eo39
             go_wp2_with (first | ((with_reducible refine gate_callee (f := 22) rfl ?_); refine gl_ (some 101) Try.func22 #[.slice Ao39 t316.length co39, .int .i64 x10_3] ?_; (with_reducible refine (impl_StairAt.calls k4 _ _ t316 x10_3 t336 _ ?side1 ?side2 A35.out).mono ?_); (case side1 => exact nc_ (rR5 HO_4.out).2.2); (case side2 => exact (rR5 HO_4.out).2.1); rintro e w40 ⟨rfl, hb⟩; refine ⟨_, rfl, ?_⟩; replace HO_3 := kR_ HO_3 hb; replace HO_4 := kR_ HO_4 hb; replace HO_8 := kR_ HO_8 hb; replace HB := kB_ HB hb; (try clear hb); (try clear hb2); (try clear hk); (try clear hi)))
             go_ret
             exact ⟨nw_, ne_ HB.out⟩
            rw [if_pos c36] at H
            have c36b0 : (t336 == x11_4) = true := beq_iff_eq.mpr c36
            have c36b1 : (t336 != x11_4) = false := bne_eq_false_iff_eq.mpr c36
            clear c36
            have H' := Aside0.mk H
            clear H
            obtain ⟨Ao37, co37, eo37⟩ := Kd.R_slice HO_4.out
            subst eo37
            go_wp2_with (first | ((with_reducible refine gate_callee (f := 22) rfl ?_); refine gl_ (some 101) Try.func22 #[.slice Ao37 t316.length co37, .int .i64 x10_3] ?_; (with_reducible refine (impl_StairAt.calls k4 _ _ t316 x10_3 t336 _ ?side1 ?side2 A35.out).mono ?_); (case side1 => exact nc_ (rR5 HO_4.out).2.2); (case side2 => exact (rR5 HO_4.out).2.1); rintro e w38 ⟨rfl, hb⟩; refine ⟨_, rfl, ?_⟩; replace HO_3 := kR_ HO_3 hb; replace HO_4 := kR_ HO_4 hb; replace HO_8 := kR_ HO_8 hb; replace HB := kB_ HB hb; (try clear hb); (try clear hb2); (try clear hk); (try clear hi)))
            go_roundg k4
            case measure => have := HJ5.out; have := HK2.out; have := HK3.out; have := HK4.out; omega
            case rel => exact ⟨(wrap64 (x10_3 + 1)), ns_, H', ⟨by have := HJ5.out; have := HK2.out; have := HK3.out; have := HK4.out; omega⟩, ⟨nr_ HO_3.out⟩, ⟨nr_ HO_4.out⟩, ⟨nr_ HO_8.out⟩, ⟨ne_ HB.out⟩⟩
           rw [if_pos c31] at H
           have c31b0 : decide (x12_4 < (t313.length : Int)) = true := decide_eq_true c31
           clear c31
           by_cases c32 : 0 ≤ x12_4
           rotate_left
           ·rw [if_neg c32] at H
            exact absurd H (by simp)
           rw [if_pos c32] at H
           have c32b0 : decide (0 ≤ x12_4) = true := decide_eq_true c32
           clear c32
           by_cases c33 : ((rd_T36 t313 x12_4).f0) ≥ x10_3
           rotate_left
           ·rw [if_neg c33] at H
            have c33b0 : decide (x10_3 ≤ ((rd_T36 t313 x12_4).f0)) = false := decide_eq_false c33
            clear c33
            have H' := Aside0.mk H
            clear H
            have p333 : 0 ≤ (x12_4 : Int) := of_decide_eq_true nx_
            have q333 : x12_4 < (t313.length : Int) := of_decide_eq_true nx_
            obtain ⟨ad333, e333, hx333_0, hx333_1⟩ := at_T36 (rR5 HO_3.out).2.2 x12_4 p333 q333
            cases e333
            replace p333 := eq_true p333
            replace q333 := eq_true q333
            go_wp2
            go_roundg k4
            case measure => have := HJ5.out; have := HK2.out; have := HK3.out; have := HK4.out; omega
            case rel => exact ⟨(x11_4), (wrap64 (x12_4 + 1)), ns_, ns_, H', ⟨by have := HJ5.out; have := HK2.out; have := HK3.out; have := HK4.out; omega⟩, ⟨nr_ HO_3.out⟩, ⟨nr_ HO_4.out⟩, ⟨nr_ HO_8.out⟩, ⟨ne_ HB.out⟩⟩
           rw [if_pos c33] at H
           have c33b0 : decide (x10_3 ≤ ((rd_T36 t313 x12_4).f0)) = true := decide_eq_true c33
           clear c33
           by_cases c34 : ((rd_T36 t313 x12_4).f1) < x11_4
           rotate_left
           ·rw [if_neg c34] at H
            have c34b0 : decide (((rd_T36 t313 x12_4).f1) < x11_4) = false := decide_eq_false c34
            clear c34
            have H' := Aside0.mk H
            clear H
            have p333 : 0 ≤ (x12_4 : Int) := of_decide_eq_true nx_
            have q333 : x12_4 < (t313.length : Int) := of_decide_eq_true nx_
            obtain ⟨ad333, e333, hx333_0, hx333_1⟩ := at_T36 (rR5 HO_3.out).2.2 x12_4 p333 q333
            cases e333
            replace p333 := eq_true p333
            replace q333 := eq_true q333
            have p334 : 0 ≤ (x12_4 : Int) := of_decide_eq_true nx_
            have q334 : x12_4 < (t313.length : Int) := of_decide_eq_true nx_
            obtain ⟨ad334, e334, hx334_0, hx334_1⟩ := at_T36 (rR5 HO_3.out).2.2 x12_4 p334 q334
            obtain rfl : ad333 = ad334 := (by injection e334)
            replace p334 := eq_true p334
            replace q334 := eq_true q334
            go_wp2
            go_roundg k4
            case measure => have := HJ5.out; have := HK2.out; have := HK3.out; have := HK4.out; omega
            case rel => exact ⟨(x11_4), (wrap64 (x12_4 + 1)), ns_, ns_, H', ⟨by have := HJ5.out; have := HK2.out; have := HK3.out; have := HK4.out; omega⟩, ⟨nr_ HO_3.out⟩, ⟨nr_ HO_4.out⟩, ⟨nr_ HO_8.out⟩, ⟨ne_ HB.out⟩⟩
           rw [if_pos c34] at H
           have c34b0 : decide (((rd_T36 t313 x12_4).f1) < x11_4) = true := decide_eq_true c34
           clear c34
           have H' := Aside0.mk H
           clear H
           have p333 : 0 ≤ (x12_4 : Int) := of_decide_eq_true nx_
           have q333 : x12_4 < (t313.length : Int) := of_decide_eq_true nx_
           obtain ⟨ad333, e333, hx333_0, hx333_1⟩ := at_T36 (rR5 HO_3.out).2.2 x12_4 p333 q333
           cases e333
           replace p333 := eq_true p333
           replace q333 := eq_true q333
           have p334 : 0 ≤ (x12_4 : Int) := of_decide_eq_true nx_
           have q334 : x12_4 < (t313.length : Int) := of_decide_eq_true nx_
           obtain ⟨ad334, e334, hx334_0, hx334_1⟩ := at_T36 (rR5 HO_3.out).2.2 x12_4 p334 q334
           obtain rfl : ad333 = ad334 := (by injection e334)
           replace p334 := eq_true p334
           replace q334 := eq_true q334
           have p335 : 0 ≤ (x12_4 : Int) := of_decide_eq_true nx_
           have q335 : x12_4 < (t313.length : Int) := of_decide_eq_true nx_
           obtain ⟨ad335, e335, hx335_0, hx335_1⟩ := at_T36 (rR5 HO_3.out).2.2 x12_4 p335 q335
           obtain rfl : ad333 = ad335 := (by injection e335)
           replace p335 := eq_true p335
           replace q335 := eq_true q335
           go_wp2
           go_roundg k4
           case measure => have := HJ5.out; have := HK2.out; have := HK3.out; have := HK4.out; omega
           case rel => exact ⟨((rd_T36 t313 x12_4).f1), (wrap64 (x12_4 + 1)), ns_, ns_, H', ⟨by have := HJ5.out; have := HK2.out; have := HK3.out; have := HK4.out; omega⟩, ⟨nr_ HO_3.out⟩, ⟨nr_ HO_4.out⟩, ⟨nr_ HO_8.out⟩, ⟨ne_ HB.out⟩⟩
        rw [if_neg c30] at H
        have c30b0 : decide (x10_3 ≤ 199) = false := decide_eq_false c30
        clear c30
        replace H := Option.bind_eq_some_iff.mp H
        obtain ⟨⟨t337, t338⟩, A410, H⟩ := H
        try dsimp only at H
        have A41 := Aside0.mk A410
        clear A410
        replace H := Option.bind_eq_some_iff.mp H
        obtain ⟨⟨t341, t342⟩, A420, H⟩ := H
        try dsimp only at H
        have A42 := Aside0.mk A420
        clear A420
        replace H := Option.bind_eq_some_iff.mp H
        obtain ⟨t345, A430, H⟩ := H
        try dsimp only at H
        have A43 := Aside0.mk A430
        clear A430
        by_cases c44 : t345 = true
        rotate_left
        ·replace c44 := Bool.eq_false_iff.mpr c44
         subst c44
         have H1 : (some false) = some r := by rw [if_neg (show ¬ (false = true) by decide)] at H; exact H
         clear H
         have H := H1
         clear H1
         obtain rfl := Option.some.inj H
         obtain ⟨Ao61, co61, eo61⟩ := Kd.R_slice HO_8.out
         subst eo61
         go_wp2_with (first | ((with_reducible refine gate_callee (f := 19) rfl ?_); refine gl_ (some 106) Try.func19 #[.slice Ao61 x8_2.length co61] ?_; (with_reducible refine (impl_StairOf.calls k3 _ _ x8_2 t337 t338 _ ?side1 ?side2 A41.out).mono ?_); (case side1 => exact nc_ (rR5 HO_8.out).2.2); (case side2 => exact (rR5 HO_8.out).2.1); rintro e w62 ⟨v339, rfl, ho0, hb⟩; refine ⟨_, rfl, ?_⟩; have HO340 := Aside0.mk (Kd.R_lower (Kd.R_new' (Kd.R_new' (Kd.R_new' ho0 (Kd.R_lt (nr_ HO_3.out))) (Kd.R_lt (nr_ HO_4.out))) (Kd.R_lt (nr_ HO_8.out))) (below_size (ne_ HB.out))); replace HO_3 := Aside0.mk (Kd.R_elder' (nr_ HO_3.out) (Kd.R_base ho0) hb); replace HO_4 := Aside0.mk (Kd.R_elder' (nr_ HO_4.out) (Kd.R_base ho0) hb); replace HO_8 := Aside0.mk (Kd.R_elder' (nr_ HO_8.out) (Kd.R_base ho0) hb); replace HB := kB_ HB hb; (try clear hb); (try clear hb2); (try clear hk); (try clear hi); (try clear ho0); obtain ⟨Ao63, co63, eo63⟩ := Kd.R_slice HO_4.out; subst eo63) | ((with_reducible refine gate_callee (f := 19) rfl ?_); refine gl_ (some 111) Try.func19 #[.slice Ao63 t316.length co63] ?_; (with_reducible refine (impl_StairOf.calls k3 _ _ t316 t341 t342 _ ?side1 ?side2 A42.out).mono ?_); (case side1 => exact nc_ (rR5 HO_4.out).2.2); (case side2 => exact (rR5 HO_4.out).2.1); rintro e w64 ⟨v343, rfl, ho0, hb⟩; refine ⟨_, rfl, ?_⟩; have HO344 := Aside0.mk (Kd.R_lower (Kd.R_new' (Kd.R_new' (Kd.R_new' (Kd.R_new' ho0 (Kd.R_lt (nr_ HO_3.out))) (Kd.R_lt (nr_ HO_4.out))) (Kd.R_lt (nr_ HO_8.out))) (Kd.R_lt (nr_ HO340.out))) (below_size (ne_ HB.out))); replace HO_3 := Aside0.mk (Kd.R_elder' (nr_ HO_3.out) (Kd.R_base ho0) hb); replace HO_4 := Aside0.mk (Kd.R_elder' (nr_ HO_4.out) (Kd.R_base ho0) hb); replace HO_8 := Aside0.mk (Kd.R_elder' (nr_ HO_8.out) (Kd.R_base ho0) hb); replace HO340 := Aside0.mk (Kd.R_elder' (nr_ HO340.out) (Kd.R_base ho0) hb); replace HB := kB_ HB hb; (try clear hb); (try clear hb2); (try clear hk); (try clear hi); (try clear ho0)) | ((with_reducible refine gate_callee (f := 23) rfl ?_); refine gl_ (some 115) Try.func23 #[.slice Ao63 t316.length co63] ?_; (with_reducible refine (impl_StairOk.calls k3 _ _ t316 false _ ?side1 ?side2 A43.out).mono ?_); (case side1 => exact nc_ (rR5 HO_4.out).2.2); (case side2 => exact (rR5 HO_4.out).2.1); rintro e w65 ⟨rfl, hb⟩; refine ⟨_, rfl, ?_⟩; replace HO_3 := kR_ HO_3 hb; replace HO_4 := kR_ HO_4 hb; replace HO_8 := kR_ HO_8 hb; replace HO340 := kR_ HO340 hb; replace HO344 := kR_ HO344 hb; replace HB := kB_ HB hb; (try clear hb); (try clear hb2); (try clear hk); (try clear hi)))
         go_ret
         exact ⟨nw_, ne_ HB.out⟩

        subst c44
        rw [if_pos rfl] at H
        replace H := Option.bind_eq_some_iff.mp H
        obtain ⟨t346, A450, H⟩ := H
        replace H : (if t346 = true then ((laws_wkSteps.f k3 t341 t316).bind fun t347 => (some t347)) else (some false)) = some r := H
        have A45 := Aside0.mk A450
        clear A450
        by_cases c46 : t346 = true
        rotate_left
        ·replace c46 := Bool.eq_false_iff.mpr c46
         subst c46
         have H1 : (some false) = some r := by rw [if_neg (show ¬ (false = true) by decide)] at H; exact H
         clear H
         have H := H1
         clear H1
         obtain rfl := Option.some.inj H
         obtain ⟨Ao55, co55, eo55⟩ := Kd.R_slice HO_8.out
         subst eo55
         go_wp2_with (first | ((with_reducible refine gate_callee (f := 19) rfl ?_); refine gl_ (some 106) Try.func19 #[.slice Ao55 x8_2.length co55] ?_; (with_reducible refine (impl_StairOf.calls k3 _ _ x8_2 t337 t338 _ ?side1 ?side2 A41.out).mono ?_); (case side1 => exact nc_ (rR5 HO_8.out).2.2); (case side2 => exact (rR5 HO_8.out).2.1); rintro e w56 ⟨v339, rfl, ho0, hb⟩; refine ⟨_, rfl, ?_⟩; have HO340 := Aside0.mk (Kd.R_lower (Kd.R_new' (Kd.R_new' (Kd.R_new' ho0 (Kd.R_lt (nr_ HO_3.out))) (Kd.R_lt (nr_ HO_4.out))) (Kd.R_lt (nr_ HO_8.out))) (below_size (ne_ HB.out))); replace HO_3 := Aside0.mk (Kd.R_elder' (nr_ HO_3.out) (Kd.R_base ho0) hb); replace HO_4 := Aside0.mk (Kd.R_elder' (nr_ HO_4.out) (Kd.R_base ho0) hb); replace HO_8 := Aside0.mk (Kd.R_elder' (nr_ HO_8.out) (Kd.R_base ho0) hb); replace HB := kB_ HB hb; (try clear hb); (try clear hb2); (try clear hk); (try clear hi); (try clear ho0); obtain ⟨Ao57, co57, eo57⟩ := Kd.R_slice HO_4.out; subst eo57) | ((with_reducible refine gate_callee (f := 19) rfl ?_); refine gl_ (some 111) Try.func19 #[.slice Ao57 t316.length co57] ?_; (with_reducible refine (impl_StairOf.calls k3 _ _ t316 t341 t342 _ ?side1 ?side2 A42.out).mono ?_); (case side1 => exact nc_ (rR5 HO_4.out).2.2); (case side2 => exact (rR5 HO_4.out).2.1); rintro e w58 ⟨v343, rfl, ho0, hb⟩; refine ⟨_, rfl, ?_⟩; have HO344 := Aside0.mk (Kd.R_lower (Kd.R_new' (Kd.R_new' (Kd.R_new' (Kd.R_new' ho0 (Kd.R_lt (nr_ HO_3.out))) (Kd.R_lt (nr_ HO_4.out))) (Kd.R_lt (nr_ HO_8.out))) (Kd.R_lt (nr_ HO340.out))) (below_size (ne_ HB.out))); replace HO_3 := Aside0.mk (Kd.R_elder' (nr_ HO_3.out) (Kd.R_base ho0) hb); replace HO_4 := Aside0.mk (Kd.R_elder' (nr_ HO_4.out) (Kd.R_base ho0) hb); replace HO_8 := Aside0.mk (Kd.R_elder' (nr_ HO_8.out) (Kd.R_base ho0) hb); replace HO340 := Aside0.mk (Kd.R_elder' (nr_ HO340.out) (Kd.R_base ho0) hb); replace HB := kB_ HB hb; (try clear hb); (try clear hb2); (try clear hk); (try clear hi); (try clear ho0)) | ((with_reducible refine gate_callee (f := 23) rfl ?_); refine gl_ (some 115) Try.func23 #[.slice Ao57 t316.length co57] ?_; (with_reducible refine (impl_StairOk.calls k3 _ _ t316 true _ ?side1 ?side2 A43.out).mono ?_); (case side1 => exact nc_ (rR5 HO_4.out).2.2); (case side2 => exact (rR5 HO_4.out).2.1); rintro e w59 ⟨rfl, hb⟩; refine ⟨_, rfl, ?_⟩; replace HO_3 := kR_ HO_3 hb; replace HO_4 := kR_ HO_4 hb; replace HO_8 := kR_ HO_8 hb; replace HO340 := kR_ HO340 hb; replace HO344 := kR_ HO344 hb; replace HB := kB_ HB hb; (try clear hb); (try clear hb2); (try clear hk); (try clear hi); obtain ⟨Ao60, co60, eo60⟩ := Kd.R_slice HO340.out; subst eo60) | (go_at_call 21; (with_reducible refine (laws_wkSteps.calls k3 _ _ t337 _ _ t316 false _ ?side1 ?side2 ?side3 ?side4 A45.out).mono ?_); (case side1 => exact nc_ (rR5 HO340.out).2.2); (case side2 => exact (rR5 HO340.out).2.1); (case side3 => exact nc_ (rR5 HO_4.out).2.2); (case side4 => exact (rR5 HO_4.out).2.1); rintro e w' ⟨rfl, ⟨nd, rfl⟩⟩))
         go_ret
         exact ⟨nw_, ne_ HB.out⟩
        subst c46
        have H1 : ((laws_wkSteps.f k3 t341 t316).bind fun t347 => (some t347)) = some r := by rw [if_pos rfl] at H; exact H
        clear H
        have H := H1
        clear H1
        replace H := Option.bind_eq_some_iff.mp H
        obtain ⟨t347, A470, H⟩ := H
        replace H : (some t347) = some r := H
        have A47 := Aside0.mk A470
        clear A470
        obtain rfl := Option.some.inj H
        obtain ⟨Ao48, co48, eo48⟩ := Kd.R_slice HO_8.out
        subst eo48
        go_wp2_with (first | ((with_reducible refine gate_callee (f := 19) rfl ?_); refine gl_ (some 106) Try.func19 #[.slice Ao48 x8_2.length co48] ?_; (with_reducible refine (impl_StairOf.calls k3 _ _ x8_2 t337 t338 _ ?side1 ?side2 A41.out).mono ?_); (case side1 => exact nc_ (rR5 HO_8.out).2.2); (case side2 => exact (rR5 HO_8.out).2.1); rintro e w49 ⟨v339, rfl, ho0, hb⟩; refine ⟨_, rfl, ?_⟩; have HO340 := Aside0.mk (Kd.R_lower (Kd.R_new' (Kd.R_new' (Kd.R_new' ho0 (Kd.R_lt (nr_ HO_3.out))) (Kd.R_lt (nr_ HO_4.out))) (Kd.R_lt (nr_ HO_8.out))) (below_size (ne_ HB.out))); replace HO_3 := Aside0.mk (Kd.R_elder' (nr_ HO_3.out) (Kd.R_base ho0) hb); replace HO_4 := Aside0.mk (Kd.R_elder' (nr_ HO_4.out) (Kd.R_base ho0) hb); replace HO_8 := Aside0.mk (Kd.R_elder' (nr_ HO_8.out) (Kd.R_base ho0) hb); replace HB := kB_ HB hb; (try clear hb); (try clear hb2); (try clear hk); (try clear hi); (try clear ho0); obtain ⟨Ao50, co50, eo50⟩ := Kd.R_slice HO_4.out; subst eo50) | ((with_reducible refine gate_callee (f := 19) rfl ?_); refine gl_ (some 111) Try.func19 #[.slice Ao50 t316.length co50] ?_; (with_reducible refine (impl_StairOf.calls k3 _ _ t316 t341 t342 _ ?side1 ?side2 A42.out).mono ?_); (case side1 => exact nc_ (rR5 HO_4.out).2.2); (case side2 => exact (rR5 HO_4.out).2.1); rintro e w51 ⟨v343, rfl, ho0, hb⟩; refine ⟨_, rfl, ?_⟩; have HO344 := Aside0.mk (Kd.R_lower (Kd.R_new' (Kd.R_new' (Kd.R_new' (Kd.R_new' ho0 (Kd.R_lt (nr_ HO_3.out))) (Kd.R_lt (nr_ HO_4.out))) (Kd.R_lt (nr_ HO_8.out))) (Kd.R_lt (nr_ HO340.out))) (below_size (ne_ HB.out))); replace HO_3 := Aside0.mk (Kd.R_elder' (nr_ HO_3.out) (Kd.R_base ho0) hb); replace HO_4 := Aside0.mk (Kd.R_elder' (nr_ HO_4.out) (Kd.R_base ho0) hb); replace HO_8 := Aside0.mk (Kd.R_elder' (nr_ HO_8.out) (Kd.R_base ho0) hb); replace HO340 := Aside0.mk (Kd.R_elder' (nr_ HO340.out) (Kd.R_base ho0) hb); replace HB := kB_ HB hb; (try clear hb); (try clear hb2); (try clear hk); (try clear hi); (try clear ho0)) | ((with_reducible refine gate_callee (f := 23) rfl ?_); refine gl_ (some 115) Try.func23 #[.slice Ao50 t316.length co50] ?_; (with_reducible refine (impl_StairOk.calls k3 _ _ t316 true _ ?side1 ?side2 A43.out).mono ?_); (case side1 => exact nc_ (rR5 HO_4.out).2.2); (case side2 => exact (rR5 HO_4.out).2.1); rintro e w52 ⟨rfl, hb⟩; refine ⟨_, rfl, ?_⟩; replace HO_3 := kR_ HO_3 hb; replace HO_4 := kR_ HO_4 hb; replace HO_8 := kR_ HO_8 hb; replace HO340 := kR_ HO340 hb; replace HO344 := kR_ HO344 hb; replace HB := kB_ HB hb; (try clear hb); (try clear hb2); (try clear hk); (try clear hi); obtain ⟨Ao53, co53, eo53⟩ := Kd.R_slice HO340.out; subst eo53) | (go_at_call 21; (with_reducible refine (laws_wkSteps.calls k3 _ _ t337 _ _ t316 true _ ?side1 ?side2 ?side3 ?side4 A45.out).mono ?_); (case side1 => exact nc_ (rR5 HO340.out).2.2); (case side2 => exact (rR5 HO340.out).2.1); (case side3 => exact nc_ (rR5 HO_4.out).2.2); (case side4 => exact (rR5 HO_4.out).2.1); rintro e w' ⟨rfl, ⟨nd, rfl⟩⟩; obtain ⟨Ao54, co54, eo54⟩ := Kd.R_slice HO344.out; subst eo54) | (go_at_call 21; (with_reducible refine (laws_wkSteps.calls k3 _ _ t341 _ _ t316 t347 _ ?side1 ?side2 ?side3 ?side4 A47.out).mono ?_); (case side1 => exact nc_ (rR5 HO344.out).2.2); (case side2 => exact (rR5 HO344.out).2.1); (case side3 => exact nc_ (rR5 HO_4.out).2.2); (case side4 => exact (rR5 HO_4.out).2.1); rintro e w' ⟨rfl, ⟨nd, rfl⟩⟩))
        go_ret
        exact ⟨nw_, ne_ HB.out⟩
/-- THE ONE PURE STATEMENT of laws_FnStairOf: yours. -/
def laws_FnStairOf.Pure : Prop := ∀ (l0 : List Int), l0.length ≤ maxLen → l0.length * 1 ≤ 140737488351232 → (∀ x ∈ l0, (Lit.int .u8 x).wf = true) → ∃ k, laws_FnStairOf.f k l0 = some true
theorem laws_FnStairOf.walk (P : laws_FnStairOf.Pure) (a0 : Option Addr) (len0 cap0 : Nat) (z0 : List Int) (w : World) (w0 : (a0 = none ∧ len0 = 0 ∧ cap0 = 0 ∧ z0 = []) ∨ ∃ x, a0 = some x ∧ len0 ≤ cap0 ∧ cap0 ≤ maxLen ∧ z0.length = cap0 ∧ (∀ i, i < z0.length → w.cell? (x.add i) = some (.int .u8 (z0.getD i 0))) ∧ ∀ n ∈ z0, (Lit.int .u8 n).wf = true) (y0 : len0 * 1 ≤ 140737488351232) :
    Calls Try.prog 5 #[.slice a0 len0 cap0] w fun e w' => e = .returned (.bool true) ∧ Below w.heap.size w w' := by
  obtain ⟨l0, rfl, hr0, hm0, hw0, hc0⟩ := ReadsInt.ofRowC w0
  obtain ⟨k, h⟩ := P l0 hm0 y0 hw0
  refine (laws_FnStairOf.calls k _ _ l0 true w (Kd.C_of_reads (d := (0 : Int)) (h1 := fun _ => rfl) hr0) hc0 h).mono ?_
  rintro e w' ⟨rfl, hd⟩
  exact ⟨rfl, hd⟩

end Go.Proofs.Ytfpfaaibgaejjaa.Print
