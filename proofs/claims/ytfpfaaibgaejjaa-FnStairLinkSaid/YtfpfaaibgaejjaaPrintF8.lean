-- Made by this session's own program (wip/patch_print.py, over the kit's print). Lean checks it.
import Derived.Test.YtfpfaaibgaejjaaPrint0
import Derived.Test.YtfpfaaibgaejjaaPrintF21
import Derived.Test.YtfpfaaibgaejjaaPrintF22
import Derived.Test.YtfpfaaibgaejjaaPrintF23
import Derived.Test.YtfpfaaibgaejjaaPrintF24
import Derived.Test.YtfpfaaibgaejjaaPrintF25
import Derived.Test.YtfpfaaibgaejjaaPrintF26
namespace Go.Proofs.Ytfpfaaibgaejjaa.Print
open Go.RowKit Go.Proofs.YtfpfaaibgaejjaaW.PrintWords Go.Proofs.YtfpfaaibgaejjaaW.PrintLast Go.Proofs.YtfpfaaibgaejjaaW.PrintMore Go.Proofs.YtfpfaaibgaejjaaX
attribute [local go_sem] max2_int min2_int max_two min_two max_three min_three max_four min_four   -- for this text's walks alone
set_option linter.unusedVariables false
set_option linter.unusedSimpArgs false

abbrev rR8 := @Kd.R_reads'
/-! ### laws_FnStairLink: function 8 -/
mutual
def laws_FnStairLink.j0 : Nat → List (S36) → List (S36) → List (S36) → Bool → Option (Bool)
  | 0, _, _, _, _ => none
  | k + 1, x3, x4, x5, x34 => if x34 = true then ((spec_StairLink.f k x3 x4).bind fun t514 => ((laws_wkSteps.f k x5 t514).bind fun t517 => (some t517))) else (laws_FnStairLink.l0 k x3 x4 x5 0)
def laws_FnStairLink.l0 : Nat → List (S36) → List (S36) → List (S36) → Int → Option (Bool)
  | 0, _, _, _, _ => none
  | k + 1, x3, x4, x5, x6 => if x6 ≤ 199 then ((impl_StairAt.f k x3 x6).bind fun t519 => (if t519 < 99999 then ((impl_StairAt.f k x4 t519).bind fun t520 => ((impl_StairAt.f k x5 x6).bind fun t521 => (if t521 = t520 then (laws_FnStairLink.l0 k x3 x4 x5 (wrap64 (x6 + 1))) else (some false)))) else ((impl_StairAt.f k x5 x6).bind fun t522 => (if t522 = t519 then (laws_FnStairLink.l0 k x3 x4 x5 (wrap64 (x6 + 1))) else (some false))))) else ((impl_StairOk.f k x5).bind fun t518 => (some t518))
end
def laws_FnStairLink.f (k : Nat) (l0 : List Int) : Option (Bool) := if (l0.length : Int) > 1048576 then (some true) else ((spec_DrawStairLink.f k l0).bind fun bt499 => ((impl_StairLink.f k bt499.1 bt499.2).bind fun t505 => ((spec_StairLink.f k bt499.1 bt499.2).bind fun t508 => ((laws_wkSteps.f k t505 t508).bind fun t511 => (if t511 = true then ((impl_StairOk.f k bt499.1).bind fun t512 => (if t512 = true then ((impl_StairOk.f k bt499.2).bind fun t513 => (laws_FnStairLink.j0 k bt499.1 bt499.2 t505 (!t513))) else (laws_FnStairLink.j0 k bt499.1 bt499.2 t505 true))) else (laws_FnStairLink.j0 k bt499.1 bt499.2 t505 true))))))
theorem laws_FnStairLink.mono_l : ∀ k, (∀ y0 y1 y2 y3, LeO (laws_FnStairLink.j0 k y0 y1 y2 y3) (laws_FnStairLink.j0 (k + 1) y0 y1 y2 y3)) ∧ (∀ y0 y1 y2 y3, LeO (laws_FnStairLink.l0 k y0 y1 y2 y3) (laws_FnStairLink.l0 (k + 1) y0 y1 y2 y3))
  | 0 => ⟨fun _ _ _ _ r h => by simp [laws_FnStairLink.j0] at h, fun _ _ _ _ r h => by simp [laws_FnStairLink.l0] at h⟩
  | k + 1 => by
    obtain ⟨ih0, ih1⟩ := laws_FnStairLink.mono_l k
    refine ⟨?_, ?_⟩
    · intro y0 y1 y2 y3
      unfold laws_FnStairLink.j0
      repeat' first | (with_reducible first | exact ih0 _ _ _ _ | exact ih1 _ _ _ _ | exact impl_StairAt.mono _ _ _ | exact impl_StairLink.mono _ _ _ | exact impl_StairOk.mono _ _ | exact laws_wkSteps.mono _ _ _ | exact spec_DrawStairLink.mono _ _ | exact spec_StairLink.mono _ _ _ | exact LeO.refl _ | exact LeO.none _ | refine LeO.ite ?_ ?_ | refine LeO.bind ?_ (fun _ => ?_)) | exact ih0 _ _ _ _ | exact ih1 _ _ _ _ | exact impl_StairAt.mono _ _ _ | exact impl_StairLink.mono _ _ _ | exact impl_StairOk.mono _ _ | exact laws_wkSteps.mono _ _ _ | exact spec_DrawStairLink.mono _ _ | exact spec_StairLink.mono _ _ _ | exact LeO.none _ | refine LeO.ite ?_ ?_ | refine LeO.bind ?_ (fun _ => ?_)
    · intro y0 y1 y2 y3
      unfold laws_FnStairLink.l0
      repeat' first | (with_reducible first | exact ih0 _ _ _ _ | exact ih1 _ _ _ _ | exact impl_StairAt.mono _ _ _ | exact impl_StairLink.mono _ _ _ | exact impl_StairOk.mono _ _ | exact laws_wkSteps.mono _ _ _ | exact spec_DrawStairLink.mono _ _ | exact spec_StairLink.mono _ _ _ | exact LeO.refl _ | exact LeO.none _ | refine LeO.ite ?_ ?_ | refine LeO.bind ?_ (fun _ => ?_)) | exact ih0 _ _ _ _ | exact ih1 _ _ _ _ | exact impl_StairAt.mono _ _ _ | exact impl_StairLink.mono _ _ _ | exact impl_StairOk.mono _ _ | exact laws_wkSteps.mono _ _ _ | exact spec_DrawStairLink.mono _ _ | exact spec_StairLink.mono _ _ _ | exact LeO.none _ | refine LeO.ite ?_ ?_ | refine LeO.bind ?_ (fun _ => ?_)
theorem laws_FnStairLink.mono : ∀ a0 k, LeO (laws_FnStairLink.f k a0) (laws_FnStairLink.f (k + 1) a0) := by
  intro a0 k
  obtain ⟨ih0, ih1⟩ := laws_FnStairLink.mono_l k
  unfold laws_FnStairLink.f
  repeat' first | (with_reducible first | exact ih0 _ _ _ _ | exact ih1 _ _ _ _ | exact impl_StairAt.mono _ _ _ | exact impl_StairLink.mono _ _ _ | exact impl_StairOk.mono _ _ | exact laws_wkSteps.mono _ _ _ | exact spec_DrawStairLink.mono _ _ | exact spec_StairLink.mono _ _ _ | exact LeO.refl _ | exact LeO.none _ | refine LeO.ite ?_ ?_ | refine LeO.bind ?_ (fun _ => ?_)) | exact ih0 _ _ _ _ | exact ih1 _ _ _ _ | exact impl_StairAt.mono _ _ _ | exact impl_StairLink.mono _ _ _ | exact impl_StairOk.mono _ _ | exact laws_wkSteps.mono _ _ _ | exact spec_DrawStairLink.mono _ _ | exact spec_StairLink.mono _ _ _ | exact LeO.none _ | refine LeO.ite ?_ ?_ | refine LeO.bind ?_ (fun _ => ?_)
set_option maxHeartbeats 200000000 in
set_option maxRecDepth 100000 in
theorem laws_FnStairLink.calls (k : Nat) (A0 : Option Addr) (c0 : Nat) (l0 : List Int) (r : Bool) (w : World) (hr0 : Kd.C (Kd.int .u8) w A0 l0.length l0) (hc0 : l0.length ≤ c0) (h : laws_FnStairLink.f k l0 = some r) :
    Calls Try.prog 8 #[.slice A0 l0.length c0] w fun e w' => e = .returned (.bool r) ∧ Below w.heap.size w w' := by
  have HR0 := Aside0.mk hr0
  have HC0 := Aside0.mk hc0
  clear hr0 hc0
  have HB := Aside0.mk (Below.refl w.heap.size w)
  have H : (if (l0.length : Int) > 1048576 then (some true) else ((spec_DrawStairLink.f k l0).bind fun bt499 => ((impl_StairLink.f k bt499.1 bt499.2).bind fun t505 => ((spec_StairLink.f k bt499.1 bt499.2).bind fun t508 => ((laws_wkSteps.f k t505 t508).bind fun t511 => (if t511 = true then ((impl_StairOk.f k bt499.1).bind fun t512 => (if t512 = true then ((impl_StairOk.f k bt499.2).bind fun t513 => (laws_FnStairLink.j0 k bt499.1 bt499.2 t505 (!t513))) else (laws_FnStairLink.j0 k bt499.1 bt499.2 t505 true))) else (laws_FnStairLink.j0 k bt499.1 bt499.2 t505 true))))))) = some r := h
  clear h
  by_cases c2 : (l0.length : Int) > 1048576
  ·rw [if_pos c2] at H
   have c2b0 : decide (1048576 < (l0.length : Int)) = true := decide_eq_true c2
   have c2b1 : decide (1048576 < l0.length) = true := decide_eq_true (by omega)
   clear c2
   obtain rfl := Option.some.inj H
   go_enter Try.func8, Try.ntmps8
   go_wp2
   go_ret
   exact ⟨nw_, ne_ HB.out⟩
  rw [if_neg c2] at H
  have c2b0 : decide (1048576 < (l0.length : Int)) = false := decide_eq_false c2
  have c2b1 : decide (1048576 < l0.length) = false := decide_eq_false (by omega)
  clear c2
  replace H := Option.bind_eq_some_iff.mp H
  obtain ⟨⟨t499, t500⟩, A30, H⟩ := H
  try dsimp only at H
  have A3 := Aside0.mk A30
  clear A30
  replace H := Option.bind_eq_some_iff.mp H
  obtain ⟨t505, A40, H⟩ := H
  try dsimp only at H
  have A4 := Aside0.mk A40
  clear A40
  have HC5 := Aside0.mk H
  clear H
  go_enter Try.func8, Try.ntmps8
  go_upto_region 5 with (first | ((with_reducible refine gate_callee (f := 24) rfl ?_); refine gl_ (some 13) Try.func24 #[.slice A0 l0.length c0] ?_; (with_reducible refine (spec_DrawStairLink.calls k _ _ l0 t499 t500 _ ?side1 ?side2 A3.out).mono ?_); (case side1 => repeat (first | exact HR0.out | (with_reducible refine Kd.C_alloc ?_ _) | (with_reducible refine Kd.C_drewN ?_ _) | (with_reducible refine Kd.C_drew ?_))); (case side2 => exact HC0.out); rintro e w6 ⟨v501, v503, rfl, ho0, ho1, hb⟩; refine ⟨_, rfl, ?_⟩; have HO502 := Aside0.mk (Kd.R_lower ho0 (below_size (ne_ HB.out))); have HO504 := Aside0.mk (Kd.R_lower ho1 (below_size (ne_ HB.out))); replace HB := kB_ HB hb; (try clear hb); (try clear hb2); (try clear hk); (try clear hi); (try clear ho0); (try clear ho1); obtain ⟨Ao7, co7, eo7⟩ := Kd.R_slice HO502.out; subst eo7; obtain ⟨Ao8, co8, eo8⟩ := Kd.R_slice HO504.out; subst eo8) | ((with_reducible refine gate_callee (f := 25) rfl ?_); refine gl_ (some 18) Try.func25 #[.slice Ao7 t499.length co7, .slice Ao8 t500.length co8] ?_; (with_reducible refine (impl_StairLink.calls k _ _ t499 _ _ t500 t505 _ ?side1 ?side2 ?side3 ?side4 A4.out).mono ?_); (case side1 => exact nc_ (rR8 HO502.out).2.2); (case side2 => exact (rR8 HO502.out).2.1); (case side3 => exact nc_ (rR8 HO504.out).2.2); (case side4 => exact (rR8 HO504.out).2.1); rintro e w9 ⟨v506, rfl, ho0, hb⟩; refine ⟨_, rfl, ?_⟩; have HO507 := Aside0.mk (Kd.R_lower (Kd.R_new' (Kd.R_new' ho0 (Kd.R_lt (nr_ HO502.out))) (Kd.R_lt (nr_ HO504.out))) (below_size (ne_ HB.out))); replace HO502 := Aside0.mk (Kd.R_elder' (nr_ HO502.out) (Kd.R_base ho0) hb); replace HO504 := Aside0.mk (Kd.R_elder' (nr_ HO504.out) (Kd.R_base ho0) hb); replace HB := kB_ HB hb; (try clear hb); (try clear hb2); (try clear hk); (try clear hi); (try clear ho0)))
  (try simp only [Act.put, List.setIfInBounds_toArray, List.set_cons_zero, List.set_cons_succ])
  go_cut [34] (fun v34 wc => ∃ (kq : Nat) (x34_4 : Bool), v34 = .bool x34_4 ∧ Aside0 (laws_FnStairLink.j0 kq t499 t500 t505 x34_4 = some r) ∧ Aside0 (kq ≤ k) ∧ Aside0 (Kd.R k36 36 wc w.heap.size (fun k_ => some k_ ≠ ((.slice Ao8 t500.length co8) : Value).ownBlock ∧ some k_ ≠ (v506 : Value).ownBlock) (.slice Ao7 t499.length co7) t499) ∧ Aside0 (Kd.R k36 36 wc w.heap.size (fun k_ => some k_ ≠ ((.slice Ao7 t499.length co7) : Value).ownBlock ∧ some k_ ≠ (v506 : Value).ownBlock) (.slice Ao8 t500.length co8) t500) ∧ Aside0 (Kd.R k36 36 wc w.heap.size (fun k_ => some k_ ≠ ((.slice Ao7 t499.length co7) : Value).ownBlock ∧ some k_ ≠ ((.slice Ao8 t500.length co8) : Value).ownBlock) v506 t505) ∧ Aside0 (Below w.heap.size w wc))
  case first =>
   have H := HC5.out
   clear HC5
   replace H := Option.bind_eq_some_iff.mp H
   obtain ⟨t508, A100, H⟩ := H
   try dsimp only at H
   have A10 := Aside0.mk A100
   clear A100
   replace H := Option.bind_eq_some_iff.mp H
   obtain ⟨t511, A110, H⟩ := H
   try dsimp only at H
   have A11 := Aside0.mk A110
   clear A110
   by_cases c12 : t511 = true
   rotate_left
   ·replace c12 := Bool.eq_false_iff.mpr c12
    subst c12
    have H1 : (laws_FnStairLink.j0 k t499 t500 t505 true) = some r := by rw [if_neg (show ¬ (false = true) by decide)] at H; exact H
    clear H
    have H := H1
    clear H1
    have H' := Aside0.mk H
    clear H
    go_wp2_with (first | ((with_reducible refine gate_callee (f := 26) rfl ?_); refine gl_ (some 22) Try.func26 #[.slice Ao7 t499.length co7, .slice Ao8 t500.length co8] ?_; (with_reducible refine (spec_StairLink.calls k _ _ t499 _ _ t500 t508 _ ?side1 ?side2 ?side3 ?side4 A10.out).mono ?_); (case side1 => exact nc_ (rR8 HO502.out).2.2); (case side2 => exact (rR8 HO502.out).2.1); (case side3 => exact nc_ (rR8 HO504.out).2.2); (case side4 => exact (rR8 HO504.out).2.1); rintro e w25 ⟨v509, rfl, ho0, hb⟩; refine ⟨_, rfl, ?_⟩; have HO510 := Aside0.mk (Kd.R_lower (Kd.R_new' (Kd.R_new' (Kd.R_new' ho0 (Kd.R_lt (nr_ HO502.out))) (Kd.R_lt (nr_ HO504.out))) (Kd.R_lt (nr_ HO507.out))) (below_size (ne_ HB.out))); replace HO502 := Aside0.mk (Kd.R_elder' (nr_ HO502.out) (Kd.R_base ho0) hb); replace HO504 := Aside0.mk (Kd.R_elder' (nr_ HO504.out) (Kd.R_base ho0) hb); replace HO507 := Aside0.mk (Kd.R_elder' (nr_ HO507.out) (Kd.R_base ho0) hb); replace HB := kB_ HB hb; (try clear hb); (try clear hb2); (try clear hk); (try clear hi); (try clear ho0); obtain ⟨Ao26, co26, eo26⟩ := Kd.R_slice HO507.out; subst eo26; obtain ⟨Ao27, co27, eo27⟩ := Kd.R_slice HO510.out; subst eo27) | ((with_reducible refine gate_callee (f := 21) rfl ?_); refine gl_ (some 23) Try.func21 #[.slice Ao26 t505.length co26, .slice Ao27 t508.length co27] ?_; (with_reducible refine (laws_wkSteps.calls k _ _ t505 _ _ t508 false _ ?side1 ?side2 ?side3 ?side4 A11.out).mono ?_); (case side1 => exact nc_ (rR8 HO507.out).2.2); (case side2 => exact (rR8 HO507.out).2.1); (case side3 => exact nc_ (rR8 HO510.out).2.2); (case side4 => exact (rR8 HO510.out).2.1); rintro e w' ⟨rfl, ⟨nd, rfl⟩⟩; refine ⟨_, rfl, ?_⟩))
    go_meet
    case rel => exact ⟨_, (true), ns_, H', ⟨by first | omega | exact Nat.le_refl _⟩, ⟨by (with_reducible repeat (first | apply Kd.R_alloc | apply Kd.R_drewN | apply Kd.R_drew)); exact Kd.R_mono HO502.out (fun _ hk => by first | exact ⟨hk.1.1, hk.1.2⟩ | trivial | simp_all)⟩, ⟨by (with_reducible repeat (first | apply Kd.R_alloc | apply Kd.R_drewN | apply Kd.R_drew)); exact Kd.R_mono HO504.out (fun _ hk => by first | exact ⟨hk.1.1, hk.1.2⟩ | trivial | simp_all)⟩, ⟨by (with_reducible repeat (first | apply Kd.R_alloc | apply Kd.R_drewN | apply Kd.R_drew)); exact Kd.R_mono HO507.out (fun _ hk => by first | exact ⟨hk.1.1.2, hk.1.2⟩ | trivial | simp_all)⟩, ⟨ne_ HB.out⟩⟩
   subst c12
   rw [if_pos rfl] at H
   replace H := Option.bind_eq_some_iff.mp H
   obtain ⟨t512, A130, H⟩ := H
   try dsimp only at H
   have A13 := Aside0.mk A130
   clear A130
   by_cases c14 : t512 = true
   rotate_left
   ·replace c14 := Bool.eq_false_iff.mpr c14
    subst c14
    have H1 : (laws_FnStairLink.j0 k t499 t500 t505 true) = some r := by rw [if_neg (show ¬ (false = true) by decide)] at H; exact H
    clear H
    have H := H1
    clear H1
    have H' := Aside0.mk H
    clear H
    go_wp2_with (first | ((with_reducible refine gate_callee (f := 26) rfl ?_); refine gl_ (some 22) Try.func26 #[.slice Ao7 t499.length co7, .slice Ao8 t500.length co8] ?_; (with_reducible refine (spec_StairLink.calls k _ _ t499 _ _ t500 t508 _ ?side1 ?side2 ?side3 ?side4 A10.out).mono ?_); (case side1 => exact nc_ (rR8 HO502.out).2.2); (case side2 => exact (rR8 HO502.out).2.1); (case side3 => exact nc_ (rR8 HO504.out).2.2); (case side4 => exact (rR8 HO504.out).2.1); rintro e w21 ⟨v509, rfl, ho0, hb⟩; refine ⟨_, rfl, ?_⟩; have HO510 := Aside0.mk (Kd.R_lower (Kd.R_new' (Kd.R_new' (Kd.R_new' ho0 (Kd.R_lt (nr_ HO502.out))) (Kd.R_lt (nr_ HO504.out))) (Kd.R_lt (nr_ HO507.out))) (below_size (ne_ HB.out))); replace HO502 := Aside0.mk (Kd.R_elder' (nr_ HO502.out) (Kd.R_base ho0) hb); replace HO504 := Aside0.mk (Kd.R_elder' (nr_ HO504.out) (Kd.R_base ho0) hb); replace HO507 := Aside0.mk (Kd.R_elder' (nr_ HO507.out) (Kd.R_base ho0) hb); replace HB := kB_ HB hb; (try clear hb); (try clear hb2); (try clear hk); (try clear hi); (try clear ho0); obtain ⟨Ao22, co22, eo22⟩ := Kd.R_slice HO507.out; subst eo22; obtain ⟨Ao23, co23, eo23⟩ := Kd.R_slice HO510.out; subst eo23) | ((with_reducible refine gate_callee (f := 21) rfl ?_); refine gl_ (some 23) Try.func21 #[.slice Ao22 t505.length co22, .slice Ao23 t508.length co23] ?_; (with_reducible refine (laws_wkSteps.calls k _ _ t505 _ _ t508 true _ ?side1 ?side2 ?side3 ?side4 A11.out).mono ?_); (case side1 => exact nc_ (rR8 HO507.out).2.2); (case side2 => exact (rR8 HO507.out).2.1); (case side3 => exact nc_ (rR8 HO510.out).2.2); (case side4 => exact (rR8 HO510.out).2.1); rintro e w' ⟨rfl, ⟨nd, rfl⟩⟩; refine ⟨_, rfl, ?_⟩) | (go_at_call 23; (with_reducible refine (impl_StairOk.calls k _ _ t499 false _ ?side1 ?side2 A13.out).mono ?_); (case side1 => exact nc_ (rR8 HO502.out).2.2); (case side2 => exact (rR8 HO502.out).2.1); rintro e w24 ⟨rfl, hb⟩; replace HO502 := kR_ HO502 hb; replace HO504 := kR_ HO504 hb; replace HO507 := kR_ HO507 hb; replace HO510 := kR_ HO510 hb; replace HB := kB_ HB hb; (try clear hb); (try clear hb2); (try clear hk); (try clear hi)))
    go_meet
    case rel => exact ⟨_, (true), ns_, H', ⟨by first | omega | exact Nat.le_refl _⟩, ⟨by (with_reducible repeat (first | apply Kd.R_alloc | apply Kd.R_drewN | apply Kd.R_drew)); exact Kd.R_mono HO502.out (fun _ hk => by first | exact ⟨hk.1.1, hk.1.2⟩ | trivial | simp_all)⟩, ⟨by (with_reducible repeat (first | apply Kd.R_alloc | apply Kd.R_drewN | apply Kd.R_drew)); exact Kd.R_mono HO504.out (fun _ hk => by first | exact ⟨hk.1.1, hk.1.2⟩ | trivial | simp_all)⟩, ⟨by (with_reducible repeat (first | apply Kd.R_alloc | apply Kd.R_drewN | apply Kd.R_drew)); exact Kd.R_mono HO507.out (fun _ hk => by first | exact ⟨hk.1.1.2, hk.1.2⟩ | trivial | simp_all)⟩, ⟨ne_ HB.out⟩⟩
   subst c14
   rw [if_pos rfl] at H
   replace H := Option.bind_eq_some_iff.mp H
   obtain ⟨t513, A150, H⟩ := H
   replace H : (laws_FnStairLink.j0 k t499 t500 t505 (!t513)) = some r := H
   have A15 := Aside0.mk A150
   clear A150
   have H' := Aside0.mk H
   clear H
   go_wp2_with (first | ((with_reducible refine gate_callee (f := 26) rfl ?_); refine gl_ (some 22) Try.func26 #[.slice Ao7 t499.length co7, .slice Ao8 t500.length co8] ?_; (with_reducible refine (spec_StairLink.calls k _ _ t499 _ _ t500 t508 _ ?side1 ?side2 ?side3 ?side4 A10.out).mono ?_); (case side1 => exact nc_ (rR8 HO502.out).2.2); (case side2 => exact (rR8 HO502.out).2.1); (case side3 => exact nc_ (rR8 HO504.out).2.2); (case side4 => exact (rR8 HO504.out).2.1); rintro e w16 ⟨v509, rfl, ho0, hb⟩; refine ⟨_, rfl, ?_⟩; have HO510 := Aside0.mk (Kd.R_lower (Kd.R_new' (Kd.R_new' (Kd.R_new' ho0 (Kd.R_lt (nr_ HO502.out))) (Kd.R_lt (nr_ HO504.out))) (Kd.R_lt (nr_ HO507.out))) (below_size (ne_ HB.out))); replace HO502 := Aside0.mk (Kd.R_elder' (nr_ HO502.out) (Kd.R_base ho0) hb); replace HO504 := Aside0.mk (Kd.R_elder' (nr_ HO504.out) (Kd.R_base ho0) hb); replace HO507 := Aside0.mk (Kd.R_elder' (nr_ HO507.out) (Kd.R_base ho0) hb); replace HB := kB_ HB hb; (try clear hb); (try clear hb2); (try clear hk); (try clear hi); (try clear ho0); obtain ⟨Ao17, co17, eo17⟩ := Kd.R_slice HO507.out; subst eo17; obtain ⟨Ao18, co18, eo18⟩ := Kd.R_slice HO510.out; subst eo18) | ((with_reducible refine gate_callee (f := 21) rfl ?_); refine gl_ (some 23) Try.func21 #[.slice Ao17 t505.length co17, .slice Ao18 t508.length co18] ?_; (with_reducible refine (laws_wkSteps.calls k _ _ t505 _ _ t508 true _ ?side1 ?side2 ?side3 ?side4 A11.out).mono ?_); (case side1 => exact nc_ (rR8 HO507.out).2.2); (case side2 => exact (rR8 HO507.out).2.1); (case side3 => exact nc_ (rR8 HO510.out).2.2); (case side4 => exact (rR8 HO510.out).2.1); rintro e w' ⟨rfl, ⟨nd, rfl⟩⟩; refine ⟨_, rfl, ?_⟩) | (go_at_call 23; (with_reducible refine (impl_StairOk.calls k _ _ t499 true _ ?side1 ?side2 A13.out).mono ?_); (case side1 => exact nc_ (rR8 HO502.out).2.2); (case side2 => exact (rR8 HO502.out).2.1); rintro e w19 ⟨rfl, hb⟩; replace HO502 := kR_ HO502 hb; replace HO504 := kR_ HO504 hb; replace HO507 := kR_ HO507 hb; replace HO510 := kR_ HO510 hb; replace HB := kB_ HB hb; (try clear hb); (try clear hb2); (try clear hk); (try clear hi)) | (go_at_call 23; (with_reducible refine (impl_StairOk.calls k _ _ t500 t513 _ ?side1 ?side2 A15.out).mono ?_); (case side1 => exact nc_ (rR8 HO504.out).2.2); (case side2 => exact (rR8 HO504.out).2.1); rintro e w20 ⟨rfl, hb⟩; replace HO502 := kR_ HO502 hb; replace HO504 := kR_ HO504 hb; replace HO507 := kR_ HO507 hb; replace HO510 := kR_ HO510 hb; replace HB := kB_ HB hb; (try clear hb); (try clear hb2); (try clear hk); (try clear hi)))
   go_meet
   case rel => exact ⟨_, (!t513), ns_, H', ⟨by first | omega | exact Nat.le_refl _⟩, ⟨by (with_reducible repeat (first | apply Kd.R_alloc | apply Kd.R_drewN | apply Kd.R_drew)); exact Kd.R_mono HO502.out (fun _ hk => by first | exact ⟨hk.1.1, hk.1.2⟩ | trivial | simp_all)⟩, ⟨by (with_reducible repeat (first | apply Kd.R_alloc | apply Kd.R_drewN | apply Kd.R_drew)); exact Kd.R_mono HO504.out (fun _ hk => by first | exact ⟨hk.1.1, hk.1.2⟩ | trivial | simp_all)⟩, ⟨by (with_reducible repeat (first | apply Kd.R_alloc | apply Kd.R_drewN | apply Kd.R_drew)); exact Kd.R_mono HO507.out (fun _ hk => by first | exact ⟨hk.1.1.2, hk.1.2⟩ | trivial | simp_all)⟩, ⟨ne_ HB.out⟩⟩
  case rest =>
   clear HC5
   try clear c2
   try clear c2b0
   try clear c2b1
   obtain ⟨kq, x34_4, rfl, HA, HJ4, HO_3, HO_4, HO_5, HB⟩ := hcut
   cases kq with
   | zero => exact absurd HA.out (by simp [laws_FnStairLink.j0])
   | succ kj4 =>
    have H := HA.out
    clear HA
    simp only [laws_FnStairLink.j0] at H
    by_cases c28 : x34_4 = true
    ·subst c28
     rw [if_pos rfl] at H
     replace H := Option.bind_eq_some_iff.mp H
     obtain ⟨t514, A290, H⟩ := H
     replace H : ((laws_wkSteps.f kj4 t505 t514).bind fun t517 => (some t517)) = some r := H
     have A29 := Aside0.mk A290
     clear A290
     replace H := Option.bind_eq_some_iff.mp H
     obtain ⟨t517, A300, H⟩ := H
     replace H : (some t517) = some r := H
     have A30 := Aside0.mk A300
     clear A300
     obtain rfl := Option.some.inj H
     go_wp2_with (first | ((with_reducible refine gate_callee (f := 26) rfl ?_); refine gl_ (some 38) Try.func26 #[.slice Ao7 t499.length co7, .slice Ao8 t500.length co8] ?_; (with_reducible refine (spec_StairLink.calls kj4 _ _ t499 _ _ t500 t514 _ ?side1 ?side2 ?side3 ?side4 A29.out).mono ?_); (case side1 => exact nc_ (rR8 HO_3.out).2.2); (case side2 => exact (rR8 HO_3.out).2.1); (case side3 => exact nc_ (rR8 HO_4.out).2.2); (case side4 => exact (rR8 HO_4.out).2.1); rintro e w31 ⟨v515, rfl, ho0, hb⟩; refine ⟨_, rfl, ?_⟩; have HO516 := Aside0.mk (Kd.R_lower (Kd.R_new' (Kd.R_new' (Kd.R_new' ho0 (Kd.R_lt (nr_ HO_3.out))) (Kd.R_lt (nr_ HO_4.out))) (Kd.R_lt (nr_ HO_5.out))) (below_size (ne_ HB.out))); replace HO_3 := Aside0.mk (Kd.R_elder' (nr_ HO_3.out) (Kd.R_base ho0) hb); replace HO_4 := Aside0.mk (Kd.R_elder' (nr_ HO_4.out) (Kd.R_base ho0) hb); replace HO_5 := Aside0.mk (Kd.R_elder' (nr_ HO_5.out) (Kd.R_base ho0) hb); replace HB := kB_ HB hb; (try clear hb); (try clear hb2); (try clear hk); (try clear hi); (try clear ho0); obtain ⟨Ao32, co32, eo32⟩ := Kd.R_slice HO_5.out; subst eo32; obtain ⟨Ao33, co33, eo33⟩ := Kd.R_slice HO516.out; subst eo33) | ((with_reducible refine gate_callee (f := 21) rfl ?_); refine gl_ (some 39) Try.func21 #[.slice Ao32 t505.length co32, .slice Ao33 t514.length co33] ?_; (with_reducible refine (laws_wkSteps.calls kj4 _ _ t505 _ _ t514 t517 _ ?side1 ?side2 ?side3 ?side4 A30.out).mono ?_); (case side1 => exact nc_ (rR8 HO_5.out).2.2); (case side2 => exact (rR8 HO_5.out).2.1); (case side3 => exact nc_ (rR8 HO516.out).2.2); (case side4 => exact (rR8 HO516.out).2.1); rintro e w' ⟨rfl, ⟨nd, rfl⟩⟩; refine ⟨_, rfl, ?_⟩))
     go_ret
     exact ⟨nw_, ne_ HB.out⟩
    replace c28 := Bool.eq_false_iff.mpr c28
    subst c28
    have H1 : (laws_FnStairLink.l0 kj4 t499 t500 t505 0) = some r := by rw [if_neg (show ¬ (false = true) by decide)] at H; exact H
    clear H
    have H := H1
    clear H1
    have H' := Aside0.mk H
    clear H
    go_wp2
    go_loopg [6] kj4 (fun kq v6 w' => ∃ (x6_2 : Int), v6 = .int .i64 x6_2 ∧ Aside0 (laws_FnStairLink.l0 kq t499 t500 t505 x6_2 = some r) ∧ Aside0 (kq ≤ kj4) ∧ Aside0 (Kd.R k36 36 w' w.heap.size (fun k_ => some k_ ≠ ((.slice Ao8 t500.length co8) : Value).ownBlock ∧ some k_ ≠ (v506 : Value).ownBlock) (.slice Ao7 t499.length co7) t499) ∧ Aside0 (Kd.R k36 36 w' w.heap.size (fun k_ => some k_ ≠ ((.slice Ao7 t499.length co7) : Value).ownBlock ∧ some k_ ≠ (v506 : Value).ownBlock) (.slice Ao8 t500.length co8) t500) ∧ Aside0 (Kd.R k36 36 w' w.heap.size (fun k_ => some k_ ≠ ((.slice Ao7 t499.length co7) : Value).ownBlock ∧ some k_ ≠ ((.slice Ao8 t500.length co8) : Value).ownBlock) v506 t505) ∧ Aside0 (Below w.heap.size w w'))
    case atStart => exact ⟨(0), ns_, H', ⟨Nat.le_refl _⟩, ⟨nr_ HO_3.out⟩, ⟨nr_ HO_4.out⟩, ⟨nr_ HO_5.out⟩, ⟨ne_ HB.out⟩⟩
    case round =>
     clear H'
     try clear c2
     try clear c2b0
     try clear c2b1
     try clear c28
     obtain ⟨x6_2, rfl, HA, HK2, HO_3, HO_4, HO_5, HB⟩ := hrel
     cases gk with
     | zero => exact absurd HA.out (by simp [laws_FnStairLink.l0])
     | succ k2 =>
      have H := HA.out
      clear HA
      simp only [laws_FnStairLink.l0] at H
      by_cases c34 : x6_2 ≤ 199
      rotate_left
      ·rw [if_neg c34] at H
       have c34b0 : decide (x6_2 ≤ 199) = false := decide_eq_false c34
       clear c34
       replace H := Option.bind_eq_some_iff.mp H
       obtain ⟨t518, A560, H⟩ := H
       replace H : (some t518) = some r := H
       have A56 := Aside0.mk A560
       clear A560
       obtain rfl := Option.some.inj H
       obtain ⟨Ao57, co57, eo57⟩ := Kd.R_slice HO_5.out
       subst eo57
       go_wp2_with (first | ((with_reducible refine gate_callee (f := 23) rfl ?_); refine gl_ (some 58) Try.func23 #[.slice Ao57 t505.length co57] ?_; (with_reducible refine (impl_StairOk.calls k2 _ _ t505 t518 _ ?side1 ?side2 A56.out).mono ?_); (case side1 => exact nc_ (rR8 HO_5.out).2.2); (case side2 => exact (rR8 HO_5.out).2.1); rintro e w58 ⟨rfl, hb⟩; refine ⟨_, rfl, ?_⟩; replace HO_3 := kR_ HO_3 hb; replace HO_4 := kR_ HO_4 hb; replace HO_5 := kR_ HO_5 hb; replace HB := kB_ HB hb; (try clear hb); (try clear hb2); (try clear hk); (try clear hi)))
       go_ret
       exact ⟨nw_, ne_ HB.out⟩

      rw [if_pos c34] at H
      have c34b0 : decide (x6_2 ≤ 199) = true := decide_eq_true c34
      clear c34
      replace H := Option.bind_eq_some_iff.mp H
      obtain ⟨t519, A350, H⟩ := H
      try dsimp only at H
      have A35 := Aside0.mk A350
      clear A350
      by_cases c36 : t519 < 99999
      rotate_left
      ·rw [if_neg c36] at H
       have c36b0 : decide (t519 < 99999) = false := decide_eq_false c36
       clear c36
       replace H := Option.bind_eq_some_iff.mp H
       obtain ⟨t522, A480, H⟩ := H
       replace H : (if t522 = t519 then (laws_FnStairLink.l0 k2 t499 t500 t505 (wrap64 (x6_2 + 1))) else (some false)) = some r := H
       have A48 := Aside0.mk A480
       clear A480
       by_cases c49 : t522 = t519
       rotate_left
       ·rw [if_neg c49] at H
        have c49b0 : (t522 == t519) = false := beq_eq_false_iff_ne.mpr c49
        have c49b1 : (t522 != t519) = true := bne_iff_ne.mpr c49
        obtain rfl := Option.some.inj H
        go_wp2_with (first | ((with_reducible refine gate_callee (f := 22) rfl ?_); refine gl_ (some 46) Try.func22 #[.slice Ao7 t499.length co7, .int .i64 x6_2] ?_; (with_reducible refine (impl_StairAt.calls k2 _ _ t499 x6_2 t519 _ ?side1 ?side2 A35.out).mono ?_); (case side1 => exact nc_ (rR8 HO_3.out).2.2); (case side2 => exact (rR8 HO_3.out).2.1); rintro e w53 ⟨rfl, hb⟩; refine ⟨_, rfl, ?_⟩; replace HO_3 := kR_ HO_3 hb; replace HO_4 := kR_ HO_4 hb; replace HO_5 := kR_ HO_5 hb; replace HB := kB_ HB hb; (try clear hb); (try clear hb2); (try clear hk); (try clear hi); obtain ⟨Ao54, co54, eo54⟩ := Kd.R_slice HO_5.out; subst eo54) | ((with_reducible refine gate_callee (f := 22) rfl ?_); refine gl_ (some 54) Try.func22 #[.slice Ao54 t505.length co54, .int .i64 x6_2] ?_; (with_reducible refine (impl_StairAt.calls k2 _ _ t505 x6_2 t522 _ ?side1 ?side2 A48.out).mono ?_); (case side1 => exact nc_ (rR8 HO_5.out).2.2); (case side2 => exact (rR8 HO_5.out).2.1); rintro e w55 ⟨rfl, hb⟩; refine ⟨_, rfl, ?_⟩; replace HO_3 := kR_ HO_3 hb; replace HO_4 := kR_ HO_4 hb; replace HO_5 := kR_ HO_5 hb; replace HB := kB_ HB hb; (try clear hb); (try clear hb2); (try clear hk); (try clear hi)))
        go_ret
        exact ⟨nw_, ne_ HB.out⟩
       rw [if_pos c49] at H
       have c49b0 : (t522 == t519) = true := beq_iff_eq.mpr c49
       have c49b1 : (t522 != t519) = false := bne_eq_false_iff_eq.mpr c49
       clear c49
       have H' := Aside0.mk H
       clear H
       go_wp2_with (first | ((with_reducible refine gate_callee (f := 22) rfl ?_); refine gl_ (some 46) Try.func22 #[.slice Ao7 t499.length co7, .int .i64 x6_2] ?_; (with_reducible refine (impl_StairAt.calls k2 _ _ t499 x6_2 t519 _ ?side1 ?side2 A35.out).mono ?_); (case side1 => exact nc_ (rR8 HO_3.out).2.2); (case side2 => exact (rR8 HO_3.out).2.1); rintro e w50 ⟨rfl, hb⟩; refine ⟨_, rfl, ?_⟩; replace HO_3 := kR_ HO_3 hb; replace HO_4 := kR_ HO_4 hb; replace HO_5 := kR_ HO_5 hb; replace HB := kB_ HB hb; (try clear hb); (try clear hb2); (try clear hk); (try clear hi); obtain ⟨Ao51, co51, eo51⟩ := Kd.R_slice HO_5.out; subst eo51) | ((with_reducible refine gate_callee (f := 22) rfl ?_); refine gl_ (some 54) Try.func22 #[.slice Ao51 t505.length co51, .int .i64 x6_2] ?_; (with_reducible refine (impl_StairAt.calls k2 _ _ t505 x6_2 t522 _ ?side1 ?side2 A48.out).mono ?_); (case side1 => exact nc_ (rR8 HO_5.out).2.2); (case side2 => exact (rR8 HO_5.out).2.1); rintro e w52 ⟨rfl, hb⟩; refine ⟨_, rfl, ?_⟩; replace HO_3 := kR_ HO_3 hb; replace HO_4 := kR_ HO_4 hb; replace HO_5 := kR_ HO_5 hb; replace HB := kB_ HB hb; (try clear hb); (try clear hb2); (try clear hk); (try clear hi)))
       go_roundg k2
       case measure => have := HJ4.out; have := HK2.out; omega
       case rel => exact ⟨(wrap64 (x6_2 + 1)), ns_, H', ⟨by have := HJ4.out; have := HK2.out; omega⟩, ⟨nr_ HO_3.out⟩, ⟨nr_ HO_4.out⟩, ⟨nr_ HO_5.out⟩, ⟨ne_ HB.out⟩⟩
      rw [if_pos c36] at H
      have c36b0 : decide (t519 < 99999) = true := decide_eq_true c36
      clear c36
      replace H := Option.bind_eq_some_iff.mp H
      obtain ⟨t520, A370, H⟩ := H
      try dsimp only at H
      have A37 := Aside0.mk A370
      clear A370
      replace H := Option.bind_eq_some_iff.mp H
      obtain ⟨t521, A380, H⟩ := H
      replace H : (if t521 = t520 then (laws_FnStairLink.l0 k2 t499 t500 t505 (wrap64 (x6_2 + 1))) else (some false)) = some r := H
      have A38 := Aside0.mk A380
      clear A380
      by_cases c39 : t521 = t520
      rotate_left
      ·rw [if_neg c39] at H
       have c39b0 : (t521 == t520) = false := beq_eq_false_iff_ne.mpr c39
       have c39b1 : (t521 != t520) = true := bne_iff_ne.mpr c39
       obtain rfl := Option.some.inj H
       go_wp2_with (first | ((with_reducible refine gate_callee (f := 22) rfl ?_); refine gl_ (some 46) Try.func22 #[.slice Ao7 t499.length co7, .int .i64 x6_2] ?_; (with_reducible refine (impl_StairAt.calls k2 _ _ t499 x6_2 t519 _ ?side1 ?side2 A35.out).mono ?_); (case side1 => exact nc_ (rR8 HO_3.out).2.2); (case side2 => exact (rR8 HO_3.out).2.1); rintro e w44 ⟨rfl, hb⟩; refine ⟨_, rfl, ?_⟩; replace HO_3 := kR_ HO_3 hb; replace HO_4 := kR_ HO_4 hb; replace HO_5 := kR_ HO_5 hb; replace HB := kB_ HB hb; (try clear hb); (try clear hb2); (try clear hk); (try clear hi)) | ((with_reducible refine gate_callee (f := 22) rfl ?_); refine gl_ (some 51) Try.func22 #[.slice Ao8 t500.length co8, .int .i64 t519] ?_; (with_reducible refine (impl_StairAt.calls k2 _ _ t500 t519 t520 _ ?side1 ?side2 A37.out).mono ?_); (case side1 => exact nc_ (rR8 HO_4.out).2.2); (case side2 => exact (rR8 HO_4.out).2.1); rintro e w45 ⟨rfl, hb⟩; refine ⟨_, rfl, ?_⟩; replace HO_3 := kR_ HO_3 hb; replace HO_4 := kR_ HO_4 hb; replace HO_5 := kR_ HO_5 hb; replace HB := kB_ HB hb; (try clear hb); (try clear hb2); (try clear hk); (try clear hi); obtain ⟨Ao46, co46, eo46⟩ := Kd.R_slice HO_5.out; subst eo46) | ((with_reducible refine gate_callee (f := 22) rfl ?_); refine gl_ (some 54) Try.func22 #[.slice Ao46 t505.length co46, .int .i64 x6_2] ?_; (with_reducible refine (impl_StairAt.calls k2 _ _ t505 x6_2 t521 _ ?side1 ?side2 A38.out).mono ?_); (case side1 => exact nc_ (rR8 HO_5.out).2.2); (case side2 => exact (rR8 HO_5.out).2.1); rintro e w47 ⟨rfl, hb⟩; refine ⟨_, rfl, ?_⟩; replace HO_3 := kR_ HO_3 hb; replace HO_4 := kR_ HO_4 hb; replace HO_5 := kR_ HO_5 hb; replace HB := kB_ HB hb; (try clear hb); (try clear hb2); (try clear hk); (try clear hi)))
       go_ret
       exact ⟨nw_, ne_ HB.out⟩
      rw [if_pos c39] at H
      have c39b0 : (t521 == t520) = true := beq_iff_eq.mpr c39
      have c39b1 : (t521 != t520) = false := bne_eq_false_iff_eq.mpr c39
      clear c39
      have H' := Aside0.mk H
      clear H
      go_wp2_with (first | ((with_reducible refine gate_callee (f := 22) rfl ?_); refine gl_ (some 46) Try.func22 #[.slice Ao7 t499.length co7, .int .i64 x6_2] ?_; (with_reducible refine (impl_StairAt.calls k2 _ _ t499 x6_2 t519 _ ?side1 ?side2 A35.out).mono ?_); (case side1 => exact nc_ (rR8 HO_3.out).2.2); (case side2 => exact (rR8 HO_3.out).2.1); rintro e w40 ⟨rfl, hb⟩; refine ⟨_, rfl, ?_⟩; replace HO_3 := kR_ HO_3 hb; replace HO_4 := kR_ HO_4 hb; replace HO_5 := kR_ HO_5 hb; replace HB := kB_ HB hb; (try clear hb); (try clear hb2); (try clear hk); (try clear hi)) | ((with_reducible refine gate_callee (f := 22) rfl ?_); refine gl_ (some 51) Try.func22 #[.slice Ao8 t500.length co8, .int .i64 t519] ?_; (with_reducible refine (impl_StairAt.calls k2 _ _ t500 t519 t520 _ ?side1 ?side2 A37.out).mono ?_); (case side1 => exact nc_ (rR8 HO_4.out).2.2); (case side2 => exact (rR8 HO_4.out).2.1); rintro e w41 ⟨rfl, hb⟩; refine ⟨_, rfl, ?_⟩; replace HO_3 := kR_ HO_3 hb; replace HO_4 := kR_ HO_4 hb; replace HO_5 := kR_ HO_5 hb; replace HB := kB_ HB hb; (try clear hb); (try clear hb2); (try clear hk); (try clear hi); obtain ⟨Ao42, co42, eo42⟩ := Kd.R_slice HO_5.out; subst eo42) | ((with_reducible refine gate_callee (f := 22) rfl ?_); refine gl_ (some 54) Try.func22 #[.slice Ao42 t505.length co42, .int .i64 x6_2] ?_; (with_reducible refine (impl_StairAt.calls k2 _ _ t505 x6_2 t521 _ ?side1 ?side2 A38.out).mono ?_); (case side1 => exact nc_ (rR8 HO_5.out).2.2); (case side2 => exact (rR8 HO_5.out).2.1); rintro e w43 ⟨rfl, hb⟩; refine ⟨_, rfl, ?_⟩; replace HO_3 := kR_ HO_3 hb; replace HO_4 := kR_ HO_4 hb; replace HO_5 := kR_ HO_5 hb; replace HB := kB_ HB hb; (try clear hb); (try clear hb2); (try clear hk); (try clear hi)))
      go_roundg k2
      case measure => have := HJ4.out; have := HK2.out; omega
      case rel => exact ⟨(wrap64 (x6_2 + 1)), ns_, H', ⟨by have := HJ4.out; have := HK2.out; omega⟩, ⟨nr_ HO_3.out⟩, ⟨nr_ HO_4.out⟩, ⟨nr_ HO_5.out⟩, ⟨ne_ HB.out⟩⟩
/-- THE ONE PURE STATEMENT of laws_FnStairLink: yours. -/
def laws_FnStairLink.Pure : Prop := ∀ (l0 : List Int), l0.length ≤ maxLen → l0.length * 1 ≤ 140737488351232 → (∀ x ∈ l0, (Lit.int .u8 x).wf = true) → ∃ k, laws_FnStairLink.f k l0 = some true
theorem laws_FnStairLink.walk (P : laws_FnStairLink.Pure) (a0 : Option Addr) (len0 cap0 : Nat) (z0 : List Int) (w : World) (w0 : (a0 = none ∧ len0 = 0 ∧ cap0 = 0 ∧ z0 = []) ∨ ∃ x, a0 = some x ∧ len0 ≤ cap0 ∧ cap0 ≤ maxLen ∧ z0.length = cap0 ∧ (∀ i, i < z0.length → w.cell? (x.add i) = some (.int .u8 (z0.getD i 0))) ∧ ∀ n ∈ z0, (Lit.int .u8 n).wf = true) (y0 : len0 * 1 ≤ 140737488351232) :
    Calls Try.prog 8 #[.slice a0 len0 cap0] w fun e w' => e = .returned (.bool true) ∧ Below w.heap.size w w' := by
  obtain ⟨l0, rfl, hr0, hm0, hw0, hc0⟩ := ReadsInt.ofRowC w0
  obtain ⟨k, h⟩ := P l0 hm0 y0 hw0
  refine (laws_FnStairLink.calls k _ _ l0 true w (Kd.C_of_reads (d := (0 : Int)) (h1 := fun _ => rfl) hr0) hc0 h).mono ?_
  rintro e w' ⟨rfl, hd⟩
  exact ⟨rfl, hd⟩

end Go.Proofs.Ytfpfaaibgaejjaa.Print
