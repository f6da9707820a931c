-- Made by this session's own program (wip/patch_print.py, over the kit's print). Lean checks it.
import Derived.Test.YtfpfaaibgaejjaaPrint0
import Derived.Test.YtfpfaaibgaejjaaPrintF21
import Derived.Test.YtfpfaaibgaejjaaPrintF22
import Derived.Test.YtfpfaaibgaejjaaPrintF23
import Derived.Test.YtfpfaaibgaejjaaPrintF27
import Derived.Test.YtfpfaaibgaejjaaPrintF28
import Derived.Test.YtfpfaaibgaejjaaPrintF29
namespace Go.Proofs.Ytfpfaaibgaejjaa.Print
open Go.RowKit Go.Proofs.YtfpfaaibgaejjaaW.PrintWords Go.Proofs.YtfpfaaibgaejjaaW.PrintLast Go.Proofs.YtfpfaaibgaejjaaW.PrintMore Go.Proofs.YtfpfaaibgaejjaaX
attribute [local go_sem] max2_int min2_int max_two min_two max_three min_three max_four min_four   -- for this text's walks alone
set_option linter.unusedVariables false
set_option linter.unusedSimpArgs false

abbrev rR10 := @Kd.R_reads'
/-! ### laws_FnStairBest: function 10 -/
mutual
def laws_FnStairBest.j0 : Nat → List (S36) → List (S36) → List (S36) → Bool → List (S36) → Bool → Bool → Option (Bool)
  | 0, _, _, _, _, _, _, _ => none
  | k + 1, x3, x4, x5, x6, x7, x8, x45 => if x45 = true then (if (x6 == x8) = true then ((laws_wkSteps.f k x5 x7).bind fun t630 => (some t630)) else (some false)) else (laws_FnStairBest.l0 k x3 x4 x5 0)
def laws_FnStairBest.l0 : Nat → List (S36) → List (S36) → List (S36) → Int → Option (Bool)
  | 0, _, _, _, _ => none
  | k + 1, x3, x4, x5, x9 => if x9 ≤ 199 then ((impl_StairAt.f k x3 x9).bind fun t637 => ((impl_StairAt.f k x4 x9).bind fun t638 => (if t638 < t637 then ((impl_StairAt.f k x4 x9).bind fun t639 => ((impl_StairAt.f k x5 x9).bind fun t640 => (if t640 = t639 then (laws_FnStairBest.l0 k x3 x4 x5 (wrap64 (x9 + 1))) else (some false)))) else ((impl_StairAt.f k x5 x9).bind fun t641 => (if t641 = t637 then (laws_FnStairBest.l0 k x3 x4 x5 (wrap64 (x9 + 1))) else (some false)))))) else ((impl_StairBest.f k x4 x3).bind fun bt631 => ((impl_StairOk.f k x5).bind fun t635 => (if t635 = true then ((laws_wkSteps.f k bt631.1 x5).bind fun t636 => (some t636)) else (some false))))
end
def laws_FnStairBest.f (k : Nat) (l0 : List Int) : Option (Bool) := if (l0.length : Int) > 1048576 then (some true) else ((spec_DrawStairBest.f k l0).bind fun bt615 => ((impl_StairBest.f k bt615.1 bt615.2).bind fun bt621 => ((spec_StairBest.f k bt615.1 bt615.2).bind fun bt625 => (if (bt621.2 != bt625.2) = true then (laws_FnStairBest.j0 k bt615.1 bt615.2 bt621.1 bt621.2 bt625.1 bt625.2 true) else ((laws_wkSteps.f k bt621.1 bt625.1).bind fun t629 => (if t629 = true then (laws_FnStairBest.j0 k bt615.1 bt615.2 bt621.1 bt621.2 bt625.1 bt625.2 (!bt621.2)) else (laws_FnStairBest.j0 k bt615.1 bt615.2 bt621.1 bt621.2 bt625.1 bt625.2 true)))))))
theorem laws_FnStairBest.mono_l : ∀ k, (∀ y0 y1 y2 y3 y4 y5 y6, LeO (laws_FnStairBest.j0 k y0 y1 y2 y3 y4 y5 y6) (laws_FnStairBest.j0 (k + 1) y0 y1 y2 y3 y4 y5 y6)) ∧ (∀ y0 y1 y2 y3, LeO (laws_FnStairBest.l0 k y0 y1 y2 y3) (laws_FnStairBest.l0 (k + 1) y0 y1 y2 y3))
  | 0 => ⟨fun _ _ _ _ _ _ _ r h => by simp [laws_FnStairBest.j0] at h, fun _ _ _ _ r h => by simp [laws_FnStairBest.l0] at h⟩
  | k + 1 => by
    obtain ⟨ih0, ih1⟩ := laws_FnStairBest.mono_l k
    refine ⟨?_, ?_⟩
    · intro y0 y1 y2 y3 y4 y5 y6
      unfold laws_FnStairBest.j0
      repeat' first | (with_reducible first | exact ih0 _ _ _ _ _ _ _ | exact ih1 _ _ _ _ | exact impl_StairAt.mono _ _ _ | exact impl_StairBest.mono _ _ _ | exact impl_StairOk.mono _ _ | exact laws_wkSteps.mono _ _ _ | exact spec_DrawStairBest.mono _ _ | exact spec_StairBest.mono _ _ _ | exact LeO.refl _ | exact LeO.none _ | refine LeO.ite ?_ ?_ | refine LeO.bind ?_ (fun _ => ?_)) | exact ih0 _ _ _ _ _ _ _ | exact ih1 _ _ _ _ | exact impl_StairAt.mono _ _ _ | exact impl_StairBest.mono _ _ _ | exact impl_StairOk.mono _ _ | exact laws_wkSteps.mono _ _ _ | exact spec_DrawStairBest.mono _ _ | exact spec_StairBest.mono _ _ _ | exact LeO.none _ | refine LeO.ite ?_ ?_ | refine LeO.bind ?_ (fun _ => ?_)
    · intro y0 y1 y2 y3
      unfold laws_FnStairBest.l0
      repeat' first | (with_reducible first | exact ih0 _ _ _ _ _ _ _ | exact ih1 _ _ _ _ | exact impl_StairAt.mono _ _ _ | exact impl_StairBest.mono _ _ _ | exact impl_StairOk.mono _ _ | exact laws_wkSteps.mono _ _ _ | exact spec_DrawStairBest.mono _ _ | exact spec_StairBest.mono _ _ _ | exact LeO.refl _ | exact LeO.none _ | refine LeO.ite ?_ ?_ | refine LeO.bind ?_ (fun _ => ?_)) | exact ih0 _ _ _ _ _ _ _ | exact ih1 _ _ _ _ | exact impl_StairAt.mono _ _ _ | exact impl_StairBest.mono _ _ _ | exact impl_StairOk.mono _ _ | exact laws_wkSteps.mono _ _ _ | exact spec_DrawStairBest.mono _ _ | exact spec_StairBest.mono _ _ _ | exact LeO.none _ | refine LeO.ite ?_ ?_ | refine LeO.bind ?_ (fun _ => ?_)
theorem laws_FnStairBest.mono : ∀ a0 k, LeO (laws_FnStairBest.f k a0) (laws_FnStairBest.f (k + 1) a0) := by
  intro a0 k
  obtain ⟨ih0, ih1⟩ := laws_FnStairBest.mono_l k
  unfold laws_FnStairBest.f
  repeat' first | (with_reducible first | exact ih0 _ _ _ _ _ _ _ | exact ih1 _ _ _ _ | exact impl_StairAt.mono _ _ _ | exact impl_StairBest.mono _ _ _ | exact impl_StairOk.mono _ _ | exact laws_wkSteps.mono _ _ _ | exact spec_DrawStairBest.mono _ _ | exact spec_StairBest.mono _ _ _ | exact LeO.refl _ | exact LeO.none _ | refine LeO.ite ?_ ?_ | refine LeO.bind ?_ (fun _ => ?_)) | exact ih0 _ _ _ _ _ _ _ | exact ih1 _ _ _ _ | exact impl_StairAt.mono _ _ _ | exact impl_StairBest.mono _ _ _ | exact impl_StairOk.mono _ _ | exact laws_wkSteps.mono _ _ _ | exact spec_DrawStairBest.mono _ _ | exact spec_StairBest.mono _ _ _ | exact LeO.none _ | refine LeO.ite ?_ ?_ | refine LeO.bind ?_ (fun _ => ?_)
set_option maxHeartbeats 200000000 in
set_option maxRecDepth 100000 in
theorem laws_FnStairBest.calls (k : Nat) (A0 : Option Addr) (c0 : Nat) (l0 : List Int) (r : Bool) (w : World) (hr0 : Kd.C (Kd.int .u8) w A0 l0.length l0) (hc0 : l0.length ≤ c0) (h : laws_FnStairBest.f k l0 = some r) :
    Calls Try.prog 10 #[.slice A0 l0.length c0] w fun e w' => e = .returned (.bool r) ∧ Below w.heap.size w w' := by
  have HR0 := Aside0.mk hr0
  have HC0 := Aside0.mk hc0
  clear hr0 hc0
  have HB := Aside0.mk (Below.refl w.heap.size w)
  have H : (if (l0.length : Int) > 1048576 then (some true) else ((spec_DrawStairBest.f k l0).bind fun bt615 => ((impl_StairBest.f k bt615.1 bt615.2).bind fun bt621 => ((spec_StairBest.f k bt615.1 bt615.2).bind fun bt625 => (if (bt621.2 != bt625.2) = true then (laws_FnStairBest.j0 k bt615.1 bt615.2 bt621.1 bt621.2 bt625.1 bt625.2 true) else ((laws_wkSteps.f k bt621.1 bt625.1).bind fun t629 => (if t629 = true then (laws_FnStairBest.j0 k bt615.1 bt615.2 bt621.1 bt621.2 bt625.1 bt625.2 (!bt621.2)) else (laws_FnStairBest.j0 k bt615.1 bt615.2 bt621.1 bt621.2 bt625.1 bt625.2 true)))))))) = some r := h
  clear h
  by_cases c2 : (l0.length : Int) > 1048576
  ·rw [if_pos c2] at H
   have c2b0 : decide (1048576 < (l0.length : Int)) = true := decide_eq_true c2
   have c2b1 : decide (1048576 < l0.length) = true := decide_eq_true (by omega)
   clear c2
   obtain rfl := Option.some.inj H
   go_enter Try.func10, Try.ntmps10
   go_wp2
   go_ret
   exact ⟨nw_, ne_ HB.out⟩
  rw [if_neg c2] at H
  have c2b0 : decide (1048576 < (l0.length : Int)) = false := decide_eq_false c2
  have c2b1 : decide (1048576 < l0.length) = false := decide_eq_false (by omega)
  clear c2
  replace H := Option.bind_eq_some_iff.mp H
  obtain ⟨⟨t615, t616⟩, A30, H⟩ := H
  try dsimp only at H
  have A3 := Aside0.mk A30
  clear A30
  replace H := Option.bind_eq_some_iff.mp H
  obtain ⟨⟨t621, t624⟩, A40, H⟩ := H
  try dsimp only at H
  have A4 := Aside0.mk A40
  clear A40
  replace H := Option.bind_eq_some_iff.mp H
  obtain ⟨⟨t625, t626⟩, A50, H⟩ := H
  try dsimp only at H
  have A5 := Aside0.mk A50
  clear A50
  have HC6 := Aside0.mk H
  clear H
  go_enter Try.func10, Try.ntmps10
  go_upto_region 6 with (first | ((with_reducible refine gate_callee (f := 29) rfl ?_); refine gl_ (some 18) Try.func29 #[.slice A0 l0.length c0] ?_; (with_reducible refine (spec_DrawStairBest.calls k _ _ l0 t615 t616 _ ?side1 ?side2 A3.out).mono ?_); (case side1 => repeat (first | exact HR0.out | (with_reducible refine Kd.C_alloc ?_ _) | (with_reducible refine Kd.C_drewN ?_ _) | (with_reducible refine Kd.C_drew ?_))); (case side2 => exact HC0.out); rintro e w7 ⟨v617, v619, rfl, ho0, ho1, hb⟩; refine ⟨_, rfl, ?_⟩; have HO618 := Aside0.mk (Kd.R_lower ho0 (below_size (ne_ HB.out))); have HO620 := Aside0.mk (Kd.R_lower ho1 (below_size (ne_ HB.out))); replace HB := kB_ HB hb; (try clear hb); (try clear hb2); (try clear hk); (try clear hi); (try clear ho0); (try clear ho1); obtain ⟨Ao8, co8, eo8⟩ := Kd.R_slice HO618.out; subst eo8; obtain ⟨Ao9, co9, eo9⟩ := Kd.R_slice HO620.out; subst eo9) | ((with_reducible refine gate_callee (f := 28) rfl ?_); refine gl_ (some 24) Try.func28 #[.slice Ao8 t615.length co8, .slice Ao9 t616.length co9] ?_; (with_reducible refine (impl_StairBest.calls k (fun k_ => some k_ = (.slice Ao8 t615.length co8 : Value).ownBlock) _ _ t615 (fun k_ => some k_ = (.slice Ao9 t616.length co9 : Value).ownBlock) _ _ t616 t621 t624 _ ?side1 ?side2 A4.out).mono ?_); (case side1 => exact Kd.R_V (Kd.R_tight rfl (HO618.out))); (case side2 => exact Kd.R_V (Kd.R_tight rfl (HO620.out))); rintro e w10 ⟨v622, rfl, ho0, hb⟩; refine ⟨_, rfl, ?_⟩; have HO623 := Aside0.mk (Kd.R_lower (Kd.R_new' (Kd.R_new' (Kd.R_mono (ok' := fun k_ => True) ho0 (fun _ hk_ => trivial)) (Kd.R_lt (nr_ HO618.out))) (Kd.R_lt (nr_ HO620.out))) (below_size (ne_ HB.out))); replace HO618 := Aside0.mk (Kd.R_elder' (nr_ HO618.out) (Kd.R_base ho0) hb); replace HO620 := Aside0.mk (Kd.R_elder' (nr_ HO620.out) (Kd.R_base ho0) hb); replace HB := kB_ HB hb; (try clear hb); (try clear hb2); (try clear hk); (try clear hi); (try clear ho0)) | ((with_reducible refine gate_callee (f := 27) rfl ?_); refine gl_ (some 30) Try.func27 #[.slice Ao8 t615.length co8, .slice Ao9 t616.length co9] ?_; (with_reducible refine (spec_StairBest.calls k _ _ t615 _ _ t616 t625 t626 _ ?side1 ?side2 ?side3 ?side4 A5.out).mono ?_); (case side1 => exact nc_ (rR10 HO618.out).2.2); (case side2 => exact (rR10 HO618.out).2.1); (case side3 => exact nc_ (rR10 HO620.out).2.2); (case side4 => exact (rR10 HO620.out).2.1); rintro e w11 ⟨v627, rfl, ho0, hb⟩; refine ⟨_, rfl, ?_⟩; have HO628 := Aside0.mk (Kd.R_lower (Kd.R_new' (Kd.R_new' (Kd.R_new' ho0 (Kd.R_lt (nr_ HO618.out))) (Kd.R_lt (nr_ HO620.out))) (Kd.R_lt (nr_ HO623.out))) (below_size (ne_ HB.out))); replace HO618 := Aside0.mk (Kd.R_elder' (nr_ HO618.out) (Kd.R_base ho0) hb); replace HO620 := Aside0.mk (Kd.R_elder' (nr_ HO620.out) (Kd.R_base ho0) hb); replace HO623 := Aside0.mk (Kd.R_elder' (nr_ HO623.out) (Kd.R_base ho0) hb); replace HB := kB_ HB hb; (try clear hb); (try clear hb2); (try clear hk); (try clear hi); (try clear ho0)))
  (try simp only [Act.put, List.setIfInBounds_toArray, List.set_cons_zero, List.set_cons_succ])
  go_cut [45] (fun v45 wc => ∃ (kq : Nat) (x45_5 : Bool), v45 = .bool x45_5 ∧ Aside0 (laws_FnStairBest.j0 kq t615 t616 t621 t624 t625 t626 x45_5 = some r) ∧ Aside0 (kq ≤ k) ∧ Aside0 (Kd.R k36 36 wc w.heap.size (fun k_ => some k_ ≠ ((.slice Ao9 t616.length co9) : Value).ownBlock ∧ some k_ ≠ (v622 : Value).ownBlock ∧ some k_ ≠ (v627 : Value).ownBlock) (.slice Ao8 t615.length co8) t615) ∧ Aside0 (Kd.R k36 36 wc w.heap.size (fun k_ => some k_ ≠ ((.slice Ao8 t615.length co8) : Value).ownBlock ∧ some k_ ≠ (v622 : Value).ownBlock ∧ some k_ ≠ (v627 : Value).ownBlock) (.slice Ao9 t616.length co9) t616) ∧ Aside0 (Kd.R k36 36 wc w.heap.size (fun k_ => some k_ ≠ ((.slice Ao8 t615.length co8) : Value).ownBlock ∧ some k_ ≠ ((.slice Ao9 t616.length co9) : Value).ownBlock ∧ some k_ ≠ (v627 : Value).ownBlock) v622 t621) ∧ Aside0 (Kd.R k36 36 wc w.heap.size (fun k_ => some k_ ≠ ((.slice Ao8 t615.length co8) : Value).ownBlock ∧ some k_ ≠ ((.slice Ao9 t616.length co9) : Value).ownBlock ∧ some k_ ≠ (v622 : Value).ownBlock) v627 t625) ∧ Aside0 (Below w.heap.size w wc))
  case first =>
   have H := HC6.out
   clear HC6
   by_cases c12 : (t624 != t626) = true
   ·rw [if_pos c12] at H
    have c12b0 : (t624 != t626) = true := c12
    (try (have c12b1 : decide (t624 = t626) = false := by simpa using c12))
    (try (have c12b2 : (t624 == t626) = false := by simpa using c12))
    (try (have c12b3 : ¬ (t624 = t626) := by simpa using c12))
    clear c12
    (first | rw [c12b0] | (simp only [i64_w, i32_w]; rw [c12b0]) | skip)
    have H' := Aside0.mk H
    clear H
    go_wp2
    go_meet
    case rel => exact ⟨_, (true), ns_, H', ⟨by first | omega | exact Nat.le_refl _⟩, ⟨by (with_reducible repeat (first | apply Kd.R_alloc | apply Kd.R_drewN | apply Kd.R_drew)); exact Kd.R_mono HO618.out (fun _ hk => by first | exact ⟨hk.1.1, ⟨hk.1.2, hk.2⟩⟩ | trivial | simp_all)⟩, ⟨by (with_reducible repeat (first | apply Kd.R_alloc | apply Kd.R_drewN | apply Kd.R_drew)); exact Kd.R_mono HO620.out (fun _ hk => by first | exact ⟨hk.1.1, ⟨hk.1.2, hk.2⟩⟩ | trivial | simp_all)⟩, ⟨by (with_reducible repeat (first | apply Kd.R_alloc | apply Kd.R_drewN | apply Kd.R_drew)); exact Kd.R_mono HO623.out (fun _ hk => by first | exact ⟨hk.1.1.2, ⟨hk.1.2, hk.2⟩⟩ | trivial | simp_all)⟩, ⟨by (with_reducible repeat (first | apply Kd.R_alloc | apply Kd.R_drewN | apply Kd.R_drew)); exact Kd.R_mono HO628.out (fun _ hk => by first | exact ⟨hk.1.1.2, ⟨hk.1.2, hk.2⟩⟩ | trivial | simp_all)⟩, ⟨ne_ HB.out⟩⟩
   rw [if_neg c12] at H
   have c12b0 : (t624 != t626) = false := by simpa using c12
   (try (have c12b1 : decide (t624 = t626) = true := by simpa using c12))
   (try (have c12b2 : (t624 == t626) = true := by simpa using c12))
   clear c12
   (first | rw [c12b0] | (simp only [i64_w, i32_w]; rw [c12b0]) | skip)
   replace H := Option.bind_eq_some_iff.mp H
   obtain ⟨t629, A130, H⟩ := H
   try dsimp only at H
   have A13 := Aside0.mk A130
   clear A130
   by_cases c14 : t629 = true
   ·subst c14
    have H1 : (laws_FnStairBest.j0 k t615 t616 t621 t624 t625 t626 (!t624)) = some r := by rw [if_pos rfl] at H; exact H
    clear H
    have H := H1
    clear H1
    have H' := Aside0.mk H
    clear H
    obtain ⟨Ao15, co15, eo15⟩ := Kd.R_slice HO623.out
    subst eo15
    obtain ⟨Ao16, co16, eo16⟩ := Kd.R_slice HO628.out
    subst eo16
    go_wp2_with (first | (go_at_call 21; (with_reducible refine (laws_wkSteps.calls k _ _ t621 _ _ t625 true _ ?side1 ?side2 ?side3 ?side4 A13.out).mono ?_); (case side1 => exact nc_ (rR10 HO623.out).2.2); (case side2 => exact (rR10 HO623.out).2.1); (case side3 => exact nc_ (rR10 HO628.out).2.2); (case side4 => exact (rR10 HO628.out).2.1); rintro e w' ⟨rfl, ⟨nd, rfl⟩⟩))
    go_meet
    case rel => exact ⟨_, (!t624), ns_, H', ⟨by first | omega | exact Nat.le_refl _⟩, ⟨by (with_reducible repeat (first | apply Kd.R_alloc | apply Kd.R_drewN | apply Kd.R_drew)); exact Kd.R_mono HO618.out (fun _ hk => by first | exact ⟨hk.1.1, ⟨hk.1.2, hk.2⟩⟩ | trivial | simp_all)⟩, ⟨by (with_reducible repeat (first | apply Kd.R_alloc | apply Kd.R_drewN | apply Kd.R_drew)); exact Kd.R_mono HO620.out (fun _ hk => by first | exact ⟨hk.1.1, ⟨hk.1.2, hk.2⟩⟩ | trivial | simp_all)⟩, ⟨by (with_reducible repeat (first | apply Kd.R_alloc | apply Kd.R_drewN | apply Kd.R_drew)); exact Kd.R_mono HO623.out (fun _ hk => by first | exact ⟨hk.1.1.2, ⟨hk.1.2, hk.2⟩⟩ | trivial | simp_all)⟩, ⟨by (with_reducible repeat (first | apply Kd.R_alloc | apply Kd.R_drewN | apply Kd.R_drew)); exact Kd.R_mono HO628.out (fun _ hk => by first | exact ⟨hk.1.1.2, ⟨hk.1.2, hk.2⟩⟩ | trivial | simp_all)⟩, ⟨ne_ HB.out⟩⟩
   replace c14 := Bool.eq_false_iff.mpr c14
   subst c14
   have H1 : (laws_FnStairBest.j0 k t615 t616 t621 t624 t625 t626 true) = some r := by rw [if_neg (show ¬ (false = true) by decide)] at H; exact H
   clear H
   have H := H1
   clear H1
   have H' := Aside0.mk H
   clear H
   obtain ⟨Ao17, co17, eo17⟩ := Kd.R_slice HO623.out
   subst eo17
   obtain ⟨Ao18, co18, eo18⟩ := Kd.R_slice HO628.out
   subst eo18
   go_wp2_with (first | (go_at_call 21; (with_reducible refine (laws_wkSteps.calls k _ _ t621 _ _ t625 false _ ?side1 ?side2 ?side3 ?side4 A13.out).mono ?_); (case side1 => exact nc_ (rR10 HO623.out).2.2); (case side2 => exact (rR10 HO623.out).2.1); (case side3 => exact nc_ (rR10 HO628.out).2.2); (case side4 => exact (rR10 HO628.out).2.1); rintro e w' ⟨rfl, ⟨nd, rfl⟩⟩))
   go_meet
   case rel => exact ⟨_, (true), ns_, H', ⟨by first | omega | exact Nat.le_refl _⟩, ⟨by (with_reducible repeat (first | apply Kd.R_alloc | apply Kd.R_drewN | apply Kd.R_drew)); exact Kd.R_mono HO618.out (fun _ hk => by first | exact ⟨hk.1.1, ⟨hk.1.2, hk.2⟩⟩ | trivial | simp_all)⟩, ⟨by (with_reducible repeat (first | apply Kd.R_alloc | apply Kd.R_drewN | apply Kd.R_drew)); exact Kd.R_mono HO620.out (fun _ hk => by first | exact ⟨hk.1.1, ⟨hk.1.2, hk.2⟩⟩ | trivial | simp_all)⟩, ⟨by (with_reducible repeat (first | apply Kd.R_alloc | apply Kd.R_drewN | apply Kd.R_drew)); exact Kd.R_mono HO623.out (fun _ hk => by first | exact ⟨hk.1.1.2, ⟨hk.1.2, hk.2⟩⟩ | trivial | simp_all)⟩, ⟨by (with_reducible repeat (first | apply Kd.R_alloc | apply Kd.R_drewN | apply Kd.R_drew)); exact Kd.R_mono HO628.out (fun _ hk => by first | exact ⟨hk.1.1.2, ⟨hk.1.2, hk.2⟩⟩ | trivial | simp_all)⟩, ⟨ne_ HB.out⟩⟩
  case rest =>
   clear HC6
   try clear c2
   try clear c2b0
   try clear c2b1
   obtain ⟨kq, x45_5, rfl, HA, HJ5, HO_3, HO_4, HO_5, HO_7, HB⟩ := hcut
   cases kq with
   | zero => exact absurd HA.out (by simp [laws_FnStairBest.j0])
   | succ kj5 =>
    have H := HA.out
    clear HA
    simp only [laws_FnStairBest.j0] at H
    by_cases c19 : x45_5 = true
    ·subst c19
     rw [if_pos rfl] at H
     by_cases c20 : (t624 == t626) = true
     rotate_left
     ·rw [if_neg c20] at H
      have c20b0 : (t624 == t626) = false := by simpa using c20
      (try (have c20b1 : decide (t624 = t626) = false := by simpa using c20))
      (try (have c20b2 : (t624 == t626) = false := by simpa using c20))
      (try (have c20b3 : ¬ (t624 = t626) := by simpa using c20))
      clear c20
      obtain rfl := Option.some.inj H
      go_wp2
      go_ret
      exact ⟨nw_, ne_ HB.out⟩
     rw [if_pos c20] at H
     have c20b0 : (t624 == t626) = true := c20
     (try (have c20b1 : decide (t624 = t626) = true := by simpa using c20))
     (try (have c20b2 : (t624 == t626) = true := by simpa using c20))
     clear c20
     replace H := Option.bind_eq_some_iff.mp H
     obtain ⟨t630, A210, H⟩ := H
     replace H : (some t630) = some r := H
     have A21 := Aside0.mk A210
     clear A210
     obtain rfl := Option.some.inj H
     obtain ⟨Ao22, co22, eo22⟩ := Kd.R_slice HO_5.out
     subst eo22
     obtain ⟨Ao23, co23, eo23⟩ := Kd.R_slice HO_7.out
     subst eo23
     go_wp2_with (first | (go_at_call 21; (with_reducible refine (laws_wkSteps.calls kj5 _ _ t621 _ _ t625 t630 _ ?side1 ?side2 ?side3 ?side4 A21.out).mono ?_); (case side1 => exact nc_ (rR10 HO_5.out).2.2); (case side2 => exact (rR10 HO_5.out).2.1); (case side3 => exact nc_ (rR10 HO_7.out).2.2); (case side4 => exact (rR10 HO_7.out).2.1); rintro e w' ⟨rfl, ⟨nd, rfl⟩⟩))
     go_ret
     exact ⟨nw_, ne_ HB.out⟩
    replace c19 := Bool.eq_false_iff.mpr c19
    subst c19
    have H1 : (laws_FnStairBest.l0 kj5 t615 t616 t621 0) = some r := by rw [if_neg (show ¬ (false = true) by decide)] at H; exact H
    clear H
    have H := H1
    clear H1
    have H' := Aside0.mk H
    clear H
    go_wp2
    go_loopg [9] kj5 (fun kq v9 w' => ∃ (x9_2 : Int), v9 = .int .i64 x9_2 ∧ Aside0 (laws_FnStairBest.l0 kq t615 t616 t621 x9_2 = some r) ∧ Aside0 (kq ≤ kj5) ∧ Aside0 (Kd.R k36 36 w' w.heap.size (fun k_ => some k_ ≠ ((.slice Ao9 t616.length co9) : Value).ownBlock ∧ some k_ ≠ (v622 : Value).ownBlock) (.slice Ao8 t615.length co8) t615) ∧ Aside0 (Kd.R k36 36 w' w.heap.size (fun k_ => some k_ ≠ ((.slice Ao8 t615.length co8) : Value).ownBlock ∧ some k_ ≠ (v622 : Value).ownBlock) (.slice Ao9 t616.length co9) t616) ∧ Aside0 (Kd.R k36 36 w' w.heap.size (fun k_ => some k_ ≠ ((.slice Ao8 t615.length co8) : Value).ownBlock ∧ some k_ ≠ ((.slice Ao9 t616.length co9) : Value).ownBlock) v622 t621) ∧ Aside0 (Below w.heap.size w w'))
    case atStart => exact ⟨(0), ns_, H', ⟨Nat.le_refl _⟩, ⟨by (with_reducible repeat (first | apply Kd.R_alloc | apply Kd.R_drewN | apply Kd.R_drew)); exact Kd.R_mono HO_3.out (fun _ hk => by first | exact ⟨hk.1, hk.2.1⟩ | trivial | simp_all)⟩, ⟨by (with_reducible repeat (first | apply Kd.R_alloc | apply Kd.R_drewN | apply Kd.R_drew)); exact Kd.R_mono HO_4.out (fun _ hk => by first | exact ⟨hk.1, hk.2.1⟩ | trivial | simp_all)⟩, ⟨by (with_reducible repeat (first | apply Kd.R_alloc | apply Kd.R_drewN | apply Kd.R_drew)); exact Kd.R_mono HO_5.out (fun _ hk => by first | exact ⟨hk.1, hk.2.1⟩ | trivial | simp_all)⟩, ⟨ne_ HB.out⟩⟩
    case round =>
     clear H'
     try clear c2
     try clear c2b0
     try clear c2b1
     try clear c19
     obtain ⟨x9_2, rfl, HA, HK2, HO_3, HO_4, HO_5, HB⟩ := hrel
     cases gk with
     | zero => exact absurd HA.out (by simp [laws_FnStairBest.l0])
     | succ k2 =>
      have H := HA.out
      clear HA
      simp only [laws_FnStairBest.l0] at H
      by_cases c24 : x9_2 ≤ 199
      rotate_left
      ·rw [if_neg c24] at H
       have c24b0 : decide (x9_2 ≤ 199) = false := decide_eq_false c24
       clear c24
       replace H := Option.bind_eq_some_iff.mp H
       obtain ⟨⟨t631, t634⟩, A510, H⟩ := H
       try dsimp only at H
       have A51 := Aside0.mk A510
       clear A510
       replace H := Option.bind_eq_some_iff.mp H
       obtain ⟨t635, A520, H⟩ := H
       replace H : (if t635 = true then ((laws_wkSteps.f k2 t631 t621).bind fun t636 => (some t636)) else (some false)) = some r := H
       have A52 := Aside0.mk A520
       clear A520
       by_cases c53 : t635 = true
       rotate_left
       ·replace c53 := Bool.eq_false_iff.mpr c53
        subst c53
        have H1 : (some false) = some r := by rw [if_neg (show ¬ (false = true) by decide)] at H; exact H
        clear H
        have H := H1
        clear H1
        obtain rfl := Option.some.inj H
        go_wp2_with (first | ((with_reducible refine gate_callee (f := 28) rfl ?_); refine gl_ (some 77) Try.func28 #[.slice Ao9 t616.length co9, .slice Ao8 t615.length co8] ?_; (with_reducible refine (impl_StairBest.calls k2 (fun k_ => some k_ = (.slice Ao9 t616.length co9 : Value).ownBlock) _ _ t616 (fun k_ => some k_ = (.slice Ao8 t615.length co8 : Value).ownBlock) _ _ t615 t631 t634 _ ?side1 ?side2 A51.out).mono ?_); (case side1 => exact Kd.R_V (Kd.R_tight rfl (HO_4.out))); (case side2 => exact Kd.R_V (Kd.R_tight rfl (HO_3.out))); rintro e w59 ⟨v632, rfl, ho0, hb⟩; refine ⟨_, rfl, ?_⟩; have HO633 := Aside0.mk (Kd.R_lower (Kd.R_new' (Kd.R_new' (Kd.R_new' (Kd.R_mono (ok' := fun k_ => True) ho0 (fun _ hk_ => trivial)) (Kd.R_lt (nr_ HO_3.out))) (Kd.R_lt (nr_ HO_4.out))) (Kd.R_lt (nr_ HO_5.out))) (below_size (ne_ HB.out))); replace HO_3 := Aside0.mk (Kd.R_elder' (nr_ HO_3.out) (Kd.R_base ho0) hb); replace HO_4 := Aside0.mk (Kd.R_elder' (nr_ HO_4.out) (Kd.R_base ho0) hb); replace HO_5 := Aside0.mk (Kd.R_elder' (nr_ HO_5.out) (Kd.R_base ho0) hb); replace HB := kB_ HB hb; (try clear hb); (try clear hb2); (try clear hk); (try clear hi); (try clear ho0); obtain ⟨Ao60, co60, eo60⟩ := Kd.R_slice HO_5.out; subst eo60) | ((with_reducible refine gate_callee (f := 23) rfl ?_); refine gl_ (some 81) Try.func23 #[.slice Ao60 t621.length co60] ?_; (with_reducible refine (impl_StairOk.calls k2 _ _ t621 false _ ?side1 ?side2 A52.out).mono ?_); (case side1 => exact nc_ (rR10 HO_5.out).2.2); (case side2 => exact (rR10 HO_5.out).2.1); rintro e w61 ⟨rfl, hb⟩; refine ⟨_, rfl, ?_⟩; replace HO_3 := kR_ HO_3 hb; replace HO_4 := kR_ HO_4 hb; replace HO_5 := kR_ HO_5 hb; replace HO633 := kR_ HO633 hb; replace HB := kB_ HB hb; (try clear hb); (try clear hb2); (try clear hk); (try clear hi)))
        go_ret
        exact ⟨nw_, ne_ HB.out⟩

       subst c53
       have H1 : ((laws_wkSteps.f k2 t631 t621).bind fun t636 => (some t636)) = some r := by rw [if_pos rfl] at H; exact H
       clear H
       have H := H1
       clear H1
       replace H := Option.bind_eq_some_iff.mp H
       obtain ⟨t636, A540, H⟩ := H
       replace H : (some t636) = some r := H
       have A54 := Aside0.mk A540
       clear A540
       obtain rfl := Option.some.inj H
       go_wp2_with (first | ((with_reducible refine gate_callee (f := 28) rfl ?_); refine gl_ (some 77) Try.func28 #[.slice Ao9 t616.length co9, .slice Ao8 t615.length co8] ?_; (with_reducible refine (impl_StairBest.calls k2 (fun k_ => some k_ = (.slice Ao9 t616.length co9 : Value).ownBlock) _ _ t616 (fun k_ => some k_ = (.slice Ao8 t615.length co8 : Value).ownBlock) _ _ t615 t631 t634 _ ?side1 ?side2 A51.out).mono ?_); (case side1 => exact Kd.R_V (Kd.R_tight rfl (HO_4.out))); (case side2 => exact Kd.R_V (Kd.R_tight rfl (HO_3.out))); rintro e w55 ⟨v632, rfl, ho0, hb⟩; refine ⟨_, rfl, ?_⟩; have HO633 := Aside0.mk (Kd.R_lower (Kd.R_new' (Kd.R_new' (Kd.R_new' (Kd.R_mono (ok' := fun k_ => True) ho0 (fun _ hk_ => trivial)) (Kd.R_lt (nr_ HO_3.out))) (Kd.R_lt (nr_ HO_4.out))) (Kd.R_lt (nr_ HO_5.out))) (below_size (ne_ HB.out))); replace HO_3 := Aside0.mk (Kd.R_elder' (nr_ HO_3.out) (Kd.R_base ho0) hb); replace HO_4 := Aside0.mk (Kd.R_elder' (nr_ HO_4.out) (Kd.R_base ho0) hb); replace HO_5 := Aside0.mk (Kd.R_elder' (nr_ HO_5.out) (Kd.R_base ho0) hb); replace HB := kB_ HB hb; (try clear hb); (try clear hb2); (try clear hk); (try clear hi); (try clear ho0); obtain ⟨Ao56, co56, eo56⟩ := Kd.R_slice HO_5.out; subst eo56) | ((with_reducible refine gate_callee (f := 23) rfl ?_); refine gl_ (some 81) Try.func23 #[.slice Ao56 t621.length co56] ?_; (with_reducible refine (impl_StairOk.calls k2 _ _ t621 true _ ?side1 ?side2 A52.out).mono ?_); (case side1 => exact nc_ (rR10 HO_5.out).2.2); (case side2 => exact (rR10 HO_5.out).2.1); rintro e w57 ⟨rfl, hb⟩; refine ⟨_, rfl, ?_⟩; replace HO_3 := kR_ HO_3 hb; replace HO_4 := kR_ HO_4 hb; replace HO_5 := kR_ HO_5 hb; replace HO633 := kR_ HO633 hb; replace HB := kB_ HB hb; (try clear hb); (try clear hb2); (try clear hk); (try clear hi); obtain ⟨Ao58, co58, eo58⟩ := Kd.R_slice HO633.out; subst eo58) | (go_at_call 21; (with_reducible refine (laws_wkSteps.calls k2 _ _ t631 _ _ t621 t636 _ ?side1 ?side2 ?side3 ?side4 A54.out).mono ?_); (case side1 => exact nc_ (rR10 HO633.out).2.2); (case side2 => exact (rR10 HO633.out).2.1); (case side3 => exact nc_ (rR10 HO_5.out).2.2); (case side4 => exact (rR10 HO_5.out).2.1); rintro e w' ⟨rfl, ⟨nd, rfl⟩⟩))
       go_ret
       exact ⟨nw_, ne_ HB.out⟩
      rw [if_pos c24] at H
      have c24b0 : decide (x9_2 ≤ 199) = true := decide_eq_true c24
      clear c24
      replace H := Option.bind_eq_some_iff.mp H
      obtain ⟨t637, A250, H⟩ := H
      try dsimp only at H
      have A25 := Aside0.mk A250
      clear A250
      replace H := Option.bind_eq_some_iff.mp H
      obtain ⟨t638, A260, H⟩ := H
      try dsimp only at H
      have A26 := Aside0.mk A260
      clear A260
      by_cases c27 : t638 < t637
      rotate_left
      ·rw [if_neg c27] at H
       have c27b0 : decide (t638 < t637) = false := decide_eq_false c27
       clear c27
       replace H := Option.bind_eq_some_iff.mp H
       obtain ⟨t641, A410, H⟩ := H
       replace H : (if t641 = t637 then (laws_FnStairBest.l0 k2 t615 t616 t621 (wrap64 (x9_2 + 1))) else (some false)) = some r := H
       have A41 := Aside0.mk A410
       clear A410
       by_cases c42 : t641 = t637
       rotate_left
       ·rw [if_neg c42] at H
        have c42b0 : (t641 == t637) = false := beq_eq_false_iff_ne.mpr c42
        have c42b1 : (t641 != t637) = true := bne_iff_ne.mpr c42
        obtain rfl := Option.some.inj H
        go_wp2_with (first | ((with_reducible refine gate_callee (f := 22) rfl ?_); refine gl_ (some 60) Try.func22 #[.slice Ao8 t615.length co8, .int .i64 x9_2] ?_; (with_reducible refine (impl_StairAt.calls k2 _ _ t615 x9_2 t637 _ ?side1 ?side2 A25.out).mono ?_); (case side1 => exact nc_ (rR10 HO_3.out).2.2); (case side2 => exact (rR10 HO_3.out).2.1); rintro e w47 ⟨rfl, hb⟩; refine ⟨_, rfl, ?_⟩; replace HO_3 := kR_ HO_3 hb; replace HO_4 := kR_ HO_4 hb; replace HO_5 := kR_ HO_5 hb; replace HB := kB_ HB hb; (try clear hb); (try clear hb2); (try clear hk); (try clear hi)) | ((with_reducible refine gate_callee (f := 22) rfl ?_); refine gl_ (some 63) Try.func22 #[.slice Ao9 t616.length co9, .int .i64 x9_2] ?_; (with_reducible refine (impl_StairAt.calls k2 _ _ t616 x9_2 t638 _ ?side1 ?side2 A26.out).mono ?_); (case side1 => exact nc_ (rR10 HO_4.out).2.2); (case side2 => exact (rR10 HO_4.out).2.1); rintro e w48 ⟨rfl, hb⟩; refine ⟨_, rfl, ?_⟩; replace HO_3 := kR_ HO_3 hb; replace HO_4 := kR_ HO_4 hb; replace HO_5 := kR_ HO_5 hb; replace HB := kB_ HB hb; (try clear hb); (try clear hb2); (try clear hk); (try clear hi); obtain ⟨Ao49, co49, eo49⟩ := Kd.R_slice HO_5.out; subst eo49) | ((with_reducible refine gate_callee (f := 22) rfl ?_); refine gl_ (some 71) Try.func22 #[.slice Ao49 t621.length co49, .int .i64 x9_2] ?_; (with_reducible refine (impl_StairAt.calls k2 _ _ t621 x9_2 t641 _ ?side1 ?side2 A41.out).mono ?_); (case side1 => exact nc_ (rR10 HO_5.out).2.2); (case side2 => exact (rR10 HO_5.out).2.1); rintro e w50 ⟨rfl, hb⟩; refine ⟨_, rfl, ?_⟩; replace HO_3 := kR_ HO_3 hb; replace HO_4 := kR_ HO_4 hb; replace HO_5 := kR_ HO_5 hb; replace HB := kB_ HB hb; (try clear hb); (try clear hb2); (try clear hk); (try clear hi)))
        go_ret
        exact ⟨nw_, ne_ HB.out⟩
       rw [if_pos c42] at H
       have c42b0 : (t641 == t637) = true := beq_iff_eq.mpr c42
       have c42b1 : (t641 != t637) = false := bne_eq_false_iff_eq.mpr c42
       clear c42
       have H' := Aside0.mk H
       clear H
       go_wp2_with (first | ((with_reducible refine gate_callee (f := 22) rfl ?_); refine gl_ (some 60) Try.func22 #[.slice Ao8 t615.length co8, .int .i64 x9_2] ?_; (with_reducible refine (impl_StairAt.calls k2 _ _ t615 x9_2 t637 _ ?side1 ?side2 A25.out).mono ?_); (case side1 => exact nc_ (rR10 HO_3.out).2.2); (case side2 => exact (rR10 HO_3.out).2.1); rintro e w43 ⟨rfl, hb⟩; refine ⟨_, rfl, ?_⟩; replace HO_3 := kR_ HO_3 hb; replace HO_4 := kR_ HO_4 hb; replace HO_5 := kR_ HO_5 hb; replace HB := kB_ HB hb; (try clear hb); (try clear hb2); (try clear hk); (try clear hi)) | ((with_reducible refine gate_callee (f := 22) rfl ?_); refine gl_ (some 63) Try.func22 #[.slice Ao9 t616.length co9, .int .i64 x9_2] ?_; (with_reducible refine (impl_StairAt.calls k2 _ _ t616 x9_2 t638 _ ?side1 ?side2 A26.out).mono ?_); (case side1 => exact nc_ (rR10 HO_4.out).2.2); (case side2 => exact (rR10 HO_4.out).2.1); rintro e w44 ⟨rfl, hb⟩; refine ⟨_, rfl, ?_⟩; replace HO_3 := kR_ HO_3 hb; replace HO_4 := kR_ HO_4 hb; replace HO_5 := kR_ HO_5 hb; replace HB := kB_ HB hb; (try clear hb); (try clear hb2); (try clear hk); (try clear hi); obtain ⟨Ao45, co45, eo45⟩ := Kd.R_slice HO_5.out; subst eo45) | ((with_reducible refine gate_callee (f := 22) rfl ?_); refine gl_ (some 71) Try.func22 #[.slice Ao45 t621.length co45, .int .i64 x9_2] ?_; (with_reducible refine (impl_StairAt.calls k2 _ _ t621 x9_2 t641 _ ?side1 ?side2 A41.out).mono ?_); (case side1 => exact nc_ (rR10 HO_5.out).2.2); (case side2 => exact (rR10 HO_5.out).2.1); rintro e w46 ⟨rfl, hb⟩; refine ⟨_, rfl, ?_⟩; replace HO_3 := kR_ HO_3 hb; replace HO_4 := kR_ HO_4 hb; replace HO_5 := kR_ HO_5 hb; replace HB := kB_ HB hb; (try clear hb); (try clear hb2); (try clear hk); (try clear hi)))
       go_roundg k2
       case measure => have := HJ5.out; have := HK2.out; omega
       case rel => exact ⟨(wrap64 (x9_2 + 1)), ns_, H', ⟨by have := HJ5.out; have := HK2.out; omega⟩, ⟨nr_ HO_3.out⟩, ⟨nr_ HO_4.out⟩, ⟨nr_ HO_5.out⟩, ⟨ne_ HB.out⟩⟩
      rw [if_pos c27] at H
      have c27b0 : decide (t638 < t637) = true := decide_eq_true c27
      clear c27
      replace H := Option.bind_eq_some_iff.mp H
      obtain ⟨t639, A280, H⟩ := H
      try dsimp only at H
      have A28 := Aside0.mk A280
      clear A280
      replace H := Option.bind_eq_some_iff.mp H
      obtain ⟨t640, A290, H⟩ := H
      replace H : (if t640 = t639 then (laws_FnStairBest.l0 k2 t615 t616 t621 (wrap64 (x9_2 + 1))) else (some false)) = some r := H
      have A29 := Aside0.mk A290
      clear A290
      by_cases c30 : t640 = t639
      rotate_left
      ·rw [if_neg c30] at H
       have c30b0 : (t640 == t639) = false := beq_eq_false_iff_ne.mpr c30
       have c30b1 : (t640 != t639) = true := bne_iff_ne.mpr c30
       obtain rfl := Option.some.inj H
       go_wp2_with (first | ((with_reducible refine gate_callee (f := 22) rfl ?_); refine gl_ (some 60) Try.func22 #[.slice Ao8 t615.length co8, .int .i64 x9_2] ?_; (with_reducible refine (impl_StairAt.calls k2 _ _ t615 x9_2 t637 _ ?side1 ?side2 A25.out).mono ?_); (case side1 => exact nc_ (rR10 HO_3.out).2.2); (case side2 => exact (rR10 HO_3.out).2.1); rintro e w36 ⟨rfl, hb⟩; refine ⟨_, rfl, ?_⟩; replace HO_3 := kR_ HO_3 hb; replace HO_4 := kR_ HO_4 hb; replace HO_5 := kR_ HO_5 hb; replace HB := kB_ HB hb; (try clear hb); (try clear hb2); (try clear hk); (try clear hi)) | ((with_reducible refine gate_callee (f := 22) rfl ?_); refine gl_ (some 63) Try.func22 #[.slice Ao9 t616.length co9, .int .i64 x9_2] ?_; (with_reducible refine (impl_StairAt.calls k2 _ _ t616 x9_2 t638 _ ?side1 ?side2 A26.out).mono ?_); (case side1 => exact nc_ (rR10 HO_4.out).2.2); (case side2 => exact (rR10 HO_4.out).2.1); rintro e w37 ⟨rfl, hb⟩; refine ⟨_, rfl, ?_⟩; replace HO_3 := kR_ HO_3 hb; replace HO_4 := kR_ HO_4 hb; replace HO_5 := kR_ HO_5 hb; replace HB := kB_ HB hb; (try clear hb); (try clear hb2); (try clear hk); (try clear hi)) | ((with_reducible refine gate_callee (f := 22) rfl ?_); refine gl_ (some 68) Try.func22 #[.slice Ao9 t616.length co9, .int .i64 x9_2] ?_; (with_reducible refine (impl_StairAt.calls k2 _ _ t616 x9_2 t639 _ ?side1 ?side2 A28.out).mono ?_); (case side1 => exact nc_ (rR10 HO_4.out).2.2); (case side2 => exact (rR10 HO_4.out).2.1); rintro e w38 ⟨rfl, hb⟩; refine ⟨_, rfl, ?_⟩; replace HO_3 := kR_ HO_3 hb; replace HO_4 := kR_ HO_4 hb; replace HO_5 := kR_ HO_5 hb; replace HB := kB_ HB hb; (try clear hb); (try clear hb2); (try clear hk); (try clear hi); obtain ⟨Ao39, co39, eo39⟩ := Kd.R_slice HO_5.out; subst eo39) | ((with_reducible refine gate_callee (f := 22) rfl ?_); refine gl_ (some 71) Try.func22 #[.slice Ao39 t621.length co39, .int .i64 x9_2] ?_; (with_reducible refine (impl_StairAt.calls k2 _ _ t621 x9_2 t640 _ ?side1 ?side2 A29.out).mono ?_); (case side1 => exact nc_ (rR10 HO_5.out).2.2); (case side2 => exact (rR10 HO_5.out).2.1); rintro e w40 ⟨rfl, hb⟩; refine ⟨_, rfl, ?_⟩; replace HO_3 := kR_ HO_3 hb; replace HO_4 := kR_ HO_4 hb; replace HO_5 := kR_ HO_5 hb; replace HB := kB_ HB hb; (try clear hb); (try clear hb2); (try clear hk); (try clear hi)))
       go_ret
       exact ⟨nw_, ne_ HB.out⟩
      rw [if_pos c30] at H
      have c30b0 : (t640 == t639) = true := beq_iff_eq.mpr c30
      have c30b1 : (t640 != t639) = false := bne_eq_false_iff_eq.mpr c30
      clear c30
      have H' := Aside0.mk H
      clear H
      go_wp2_with (first | ((with_reducible refine gate_callee (f := 22) rfl ?_); refine gl_ (some 60) Try.func22 #[.slice Ao8 t615.length co8, .int .i64 x9_2] ?_; (with_reducible refine (impl_StairAt.calls k2 _ _ t615 x9_2 t637 _ ?side1 ?side2 A25.out).mono ?_); (case side1 => exact nc_ (rR10 HO_3.out).2.2); (case side2 => exact (rR10 HO_3.out).2.1); rintro e w31 ⟨rfl, hb⟩; refine ⟨_, rfl, ?_⟩; replace HO_3 := kR_ HO_3 hb; replace HO_4 := kR_ HO_4 hb; replace HO_5 := kR_ HO_5 hb; replace HB := kB_ HB hb; (try clear hb); (try clear hb2); (try clear hk); (try clear hi)) | ((with_reducible refine gate_callee (f := 22) rfl ?_); refine gl_ (some 63) Try.func22 #[.slice Ao9 t616.length co9, .int .i64 x9_2] ?_; (with_reducible refine (impl_StairAt.calls k2 _ _ t616 x9_2 t638 _ ?side1 ?side2 A26.out).mono ?_); (case side1 => exact nc_ (rR10 HO_4.out).2.2); (case side2 => exact (rR10 HO_4.out).2.1); rintro e w32 ⟨rfl, hb⟩; refine ⟨_, rfl, ?_⟩; replace HO_3 := kR_ HO_3 hb; replace HO_4 := kR_ HO_4 hb; replace HO_5 := kR_ HO_5 hb; replace HB := kB_ HB hb; (try clear hb); (try clear hb2); (try clear hk); (try clear hi)) | ((with_reducible refine gate_callee (f := 22) rfl ?_); refine gl_ (some 68) Try.func22 #[.slice Ao9 t616.length co9, .int .i64 x9_2] ?_; (with_reducible refine (impl_StairAt.calls k2 _ _ t616 x9_2 t639 _ ?side1 ?side2 A28.out).mono ?_); (case side1 => exact nc_ (rR10 HO_4.out).2.2); (case side2 => exact (rR10 HO_4.out).2.1); rintro e w33 ⟨rfl, hb⟩; refine ⟨_, rfl, ?_⟩; replace HO_3 := kR_ HO_3 hb; replace HO_4 := kR_ HO_4 hb; replace HO_5 := kR_ HO_5 hb; replace HB := kB_ HB hb; (try clear hb); (try clear hb2); (try clear hk); (try clear hi); obtain ⟨Ao34, co34, eo34⟩ := Kd.R_slice HO_5.out; subst eo34) | ((with_reducible refine gate_callee (f := 22) rfl ?_); refine gl_ (some 71) Try.func22 #[.slice Ao34 t621.length co34, .int .i64 x9_2] ?_; (with_reducible refine (impl_StairAt.calls k2 _ _ t621 x9_2 t640 _ ?side1 ?side2 A29.out).mono ?_); (case side1 => exact nc_ (rR10 HO_5.out).2.2); (case side2 => exact (rR10 HO_5.out).2.1); rintro e w35 ⟨rfl, hb⟩; refine ⟨_, rfl, ?_⟩; replace HO_3 := kR_ HO_3 hb; replace HO_4 := kR_ HO_4 hb; replace HO_5 := kR_ HO_5 hb; replace HB := kB_ HB hb; (try clear hb); (try clear hb2); (try clear hk); (try clear hi)))
      go_roundg k2
      case measure => have := HJ5.out; have := HK2.out; omega
      case rel => exact ⟨(wrap64 (x9_2 + 1)), ns_, H', ⟨by have := HJ5.out; have := HK2.out; omega⟩, ⟨nr_ HO_3.out⟩, ⟨nr_ HO_4.out⟩, ⟨nr_ HO_5.out⟩, ⟨ne_ HB.out⟩⟩
/-- THE ONE PURE STATEMENT of laws_FnStairBest: yours. -/
def laws_FnStairBest.Pure : Prop := ∀ (l0 : List Int), l0.length ≤ maxLen → l0.length * 1 ≤ 140737488351232 → (∀ x ∈ l0, (Lit.int .u8 x).wf = true) → ∃ k, laws_FnStairBest.f k l0 = some true
theorem laws_FnStairBest.walk (P : laws_FnStairBest.Pure) (a0 : Option Addr) (len0 cap0 : Nat) (z0 : List Int) (w : World) (w0 : (a0 = none ∧ len0 = 0 ∧ cap0 = 0 ∧ z0 = []) ∨ ∃ x, a0 = some x ∧ len0 ≤ cap0 ∧ cap0 ≤ maxLen ∧ z0.length = cap0 ∧ (∀ i, i < z0.length → w.cell? (x.add i) = some (.int .u8 (z0.getD i 0))) ∧ ∀ n ∈ z0, (Lit.int .u8 n).wf = true) (y0 : len0 * 1 ≤ 140737488351232) :
    Calls Try.prog 10 #[.slice a0 len0 cap0] w fun e w' => e = .returned (.bool true) ∧ Below w.heap.size w w' := by
  obtain ⟨l0, rfl, hr0, hm0, hw0, hc0⟩ := ReadsInt.ofRowC w0
  obtain ⟨k, h⟩ := P l0 hm0 y0 hw0
  refine (laws_FnStairBest.calls k _ _ l0 true w (Kd.C_of_reads (d := (0 : Int)) (h1 := fun _ => rfl) hr0) hc0 h).mono ?_
  rintro e w' ⟨rfl, hd⟩
  exact ⟨rfl, hd⟩

end Go.Proofs.Ytfpfaaibgaejjaa.Print
