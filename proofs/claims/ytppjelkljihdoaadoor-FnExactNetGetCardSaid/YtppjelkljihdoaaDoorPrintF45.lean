-- Made by this session's own program (wip/patch_print.py, over the kit's print). Lean checks it.
import Derived.Test.YtppjelkljihdoaaDoorPrint0
namespace Go.Proofs.YtppjelkljihdoaaDoor.Print
open Go.RowKit Go.Proofs.YtppjelkljihdoaaDoorW.PrintWords Go.Proofs.YtppjelkljihdoaaDoorW.PrintLast Go.Proofs.YtppjelkljihdoaaDoorW.PrintMore Go.Proofs.YtppjelkljihdoaaDoorX
attribute [local go_sem] max2_int min2_int max_two min_two max_three min_three max_four min_four   -- for this text's walks alone
set_option linter.unusedVariables false
set_option linter.unusedSimpArgs false

/-! ### laws_heldArcS: function 45 -/
def laws_heldArcS.l0 : Nat → List (S54) → Int → Int → Option (Int)
  | 0, _, _, _ => none
  | k + 1, x0, x1, x5 => if x5 < (x0.length : Int) then (if 0 ≤ x5 then (if ((rd_T54 x0 x5).f0) = x1 then (if ((rd_T54 x0 x5).f1) = (wrap64 (x1 + 1)) then (if ((rd_T54 x0 x5).f2) = (wrap64 ((wrap64 (x1 + 1)) + 1)) then (if ((rd_T54 x0 x5).f3) = (wrap64 ((wrap64 ((wrap64 (x1 + 1)) + 1)) + 1)) then (if ((rd_T54 x0 x5).f4) = (wrap64 ((wrap64 ((wrap64 ((wrap64 (x1 + 1)) + 1)) + 1)) + 1)) then (laws_heldArcS.l0 k x0 (wrap64 ((wrap64 ((wrap64 ((wrap64 ((wrap64 (x1 + 1)) + 1)) + 1)) + 1)) + 1)) (wrap64 (x5 + 1))) else (some (-1))) else (some (-1))) else (some (-1))) else (some (-1))) else (some (-1))) else (none)) else (some x1)
def laws_heldArcS.f (k : Nat) (l0 : List (S54)) (a1 : Int) : Option (Int) := laws_heldArcS.l0 k l0 a1 0
theorem laws_heldArcS.mono_l : ∀ k, (∀ y0 y1 y2, LeO (laws_heldArcS.l0 k y0 y1 y2) (laws_heldArcS.l0 (k + 1) y0 y1 y2))
  | 0 => fun _ _ _ r h => by simp [laws_heldArcS.l0] at h
  | k + 1 => by
    have ih0 := laws_heldArcS.mono_l k
    · intro y0 y1 y2
      unfold laws_heldArcS.l0
      repeat' first | (with_reducible first | exact ih0 _ _ _ | exact LeO.refl _ | exact LeO.none _ | refine LeO.ite ?_ ?_ | refine LeO.bind ?_ (fun _ => ?_)) | exact ih0 _ _ _ | exact LeO.none _ | refine LeO.ite ?_ ?_ | refine LeO.bind ?_ (fun _ => ?_)
theorem laws_heldArcS.mono : ∀ a0 a1 k, LeO (laws_heldArcS.f k a0 a1) (laws_heldArcS.f (k + 1) a0 a1) := by
  intro a0 a1 k
  have ih0 := laws_heldArcS.mono_l k
  unfold laws_heldArcS.f
  repeat' first | (with_reducible first | exact ih0 _ _ _ | exact LeO.refl _ | exact LeO.none _ | refine LeO.ite ?_ ?_ | refine LeO.bind ?_ (fun _ => ?_)) | exact ih0 _ _ _ | exact LeO.none _ | refine LeO.ite ?_ ?_ | refine LeO.bind ?_ (fun _ => ?_)
set_option maxHeartbeats 200000000 in
set_option maxRecDepth 100000 in
theorem laws_heldArcS.calls (k : Nat) (A0 : Option Addr) (c0 : Nat) (l0 : List (S54)) (a1 : Int) (r : Int) (w : World) (hr0 : Kd.C k54 w A0 l0.length l0) (hc0 : l0.length ≤ c0) (h : laws_heldArcS.f k l0 a1 = some r) :
    Calls Tryd.prog 45 #[.slice A0 l0.length c0, .int .i64 a1] w fun e w' => e = .returned (.int .i64 r) ∧ Drawn0 w w' := by
  have HR0 := Aside0.mk hr0
  have HC0 := Aside0.mk hc0
  clear hr0 hc0
  have H : (laws_heldArcS.l0 k l0 a1 0) = some r := h
  clear h
  have H' := Aside0.mk H
  clear H
  go_enter Tryd.func45, Tryd.ntmps45
  go_wp2
  go_loopg [1, 5] k (fun kq v1 v5 w' => ∃ (x1_1 : Int) (x5_1 : Int), v1 = .int .i64 x1_1 ∧ v5 = .int .i64 x5_1 ∧ Aside0 (laws_heldArcS.l0 kq l0 x1_1 x5_1 = some r) ∧ Aside0 (kq ≤ k) ∧ Drawn0 w w')
  case atStart => exact ⟨(a1), (0), ns_, ns_, H', ⟨Nat.le_refl _⟩, by repeat (first | exact Drawn0.refl _ | apply Drawn0.step)⟩
  case round =>
   clear H'
   obtain ⟨x1_1, x5_1, rfl, rfl, HA, HK1, ⟨m1, rfl⟩⟩ := hrel
   cases gk with
   | zero => exact absurd HA.out (by simp [laws_heldArcS.l0])
   | succ k1 =>
    have H := HA.out
    clear HA
    simp only [laws_heldArcS.l0] at H
    by_cases c3 : x5_1 < (l0.length : Int)
    rotate_left
    ·rw [if_neg c3] at H
     have c3b0 : decide (x5_1 < (l0.length : Int)) = false := decide_eq_false c3
     clear c3
     obtain rfl := Option.some.inj H
     go_wp2
     go_ret
     exact ⟨by first | rfl | (simp; done) | (simp [*]; done) | (simp [*]; exact Option.some.inj (Eq.trans (Eq.symm (Aside0.out (by assumption))) (Aside0.out (by assumption)))), by repeat (first | exact Drawn0.refl _ | apply Drawn0.step)⟩

    rw [if_pos c3] at H
    have c3b0 : decide (x5_1 < (l0.length : Int)) = true := decide_eq_true c3
    clear c3
    by_cases c4 : 0 ≤ x5_1
    rotate_left
    ·rw [if_neg c4] at H
     exact absurd H (by simp)
    rw [if_pos c4] at H
    have c4b0 : decide (0 ≤ x5_1) = true := decide_eq_true c4
    clear c4
    by_cases c5 : ((rd_T54 l0 x5_1).f0) = x1_1
    rotate_left
    ·rw [if_neg c5] at H
     have c5b0 : (((rd_T54 l0 x5_1).f0) == x1_1) = false := beq_eq_false_iff_ne.mpr c5
     have c5b1 : (((rd_T54 l0 x5_1).f0) != x1_1) = true := bne_iff_ne.mpr c5
     obtain rfl := Option.some.inj H
     have p386 : 0 ≤ (x5_1 : Int) := of_decide_eq_true nx_
     have q386 : x5_1 < (l0.length : Int) := of_decide_eq_true nx_
     obtain ⟨ad386, e386, hx386_0, hx386_1, hx386_2, hx386_3, hx386_4⟩ := at_T54 HR0.out x5_1 p386 q386
     cases e386
     replace p386 := eq_true p386
     replace q386 := eq_true q386
     go_wp2
     go_ret
     exact ⟨by first | rfl | (simp; done) | (simp [*]; done) | (simp [*]; exact Option.some.inj (Eq.trans (Eq.symm (Aside0.out (by assumption))) (Aside0.out (by assumption)))), by repeat (first | exact Drawn0.refl _ | apply Drawn0.step)⟩
    rw [if_pos c5] at H
    have c5b0 : (((rd_T54 l0 x5_1).f0) == x1_1) = true := beq_iff_eq.mpr c5
    have c5b1 : (((rd_T54 l0 x5_1).f0) != x1_1) = false := bne_eq_false_iff_eq.mpr c5
    clear c5
    by_cases c6 : ((rd_T54 l0 x5_1).f1) = (wrap64 (x1_1 + 1))
    rotate_left
    ·rw [if_neg c6] at H
     have c6b0 : (((rd_T54 l0 x5_1).f1) == (wrap64 (x1_1 + 1))) = false := beq_eq_false_iff_ne.mpr c6
     have c6b1 : (((rd_T54 l0 x5_1).f1) != (wrap64 (x1_1 + 1))) = true := bne_iff_ne.mpr c6
     obtain rfl := Option.some.inj H
     have p386 : 0 ≤ (x5_1 : Int) := of_decide_eq_true nx_
     have q386 : x5_1 < (l0.length : Int) := of_decide_eq_true nx_
     obtain ⟨ad386, e386, hx386_0, hx386_1, hx386_2, hx386_3, hx386_4⟩ := at_T54 HR0.out x5_1 p386 q386
     cases e386
     replace p386 := eq_true p386
     replace q386 := eq_true q386
     have p387 : 0 ≤ (x5_1 : Int) := of_decide_eq_true nx_
     have q387 : x5_1 < (l0.length : Int) := of_decide_eq_true nx_
     obtain ⟨ad387, e387, hx387_0, hx387_1, hx387_2, hx387_3, hx387_4⟩ := at_T54 HR0.out x5_1 p387 q387
     obtain rfl : ad386 = ad387 := (by injection e387)
     replace p387 := eq_true p387
     replace q387 := eq_true q387
     go_wp2
     go_ret
     exact ⟨by first | rfl | (simp; done) | (simp [*]; done) | (simp [*]; exact Option.some.inj (Eq.trans (Eq.symm (Aside0.out (by assumption))) (Aside0.out (by assumption)))), by repeat (first | exact Drawn0.refl _ | apply Drawn0.step)⟩
    rw [if_pos c6] at H
    have c6b0 : (((rd_T54 l0 x5_1).f1) == (wrap64 (x1_1 + 1))) = true := beq_iff_eq.mpr c6
    have c6b1 : (((rd_T54 l0 x5_1).f1) != (wrap64 (x1_1 + 1))) = false := bne_eq_false_iff_eq.mpr c6
    clear c6
    by_cases c7 : ((rd_T54 l0 x5_1).f2) = (wrap64 ((wrap64 (x1_1 + 1)) + 1))
    rotate_left
    ·rw [if_neg c7] at H
     have c7b0 : (((rd_T54 l0 x5_1).f2) == (wrap64 ((wrap64 (x1_1 + 1)) + 1))) = false := beq_eq_false_iff_ne.mpr c7
     have c7b1 : (((rd_T54 l0 x5_1).f2) != (wrap64 ((wrap64 (x1_1 + 1)) + 1))) = true := bne_iff_ne.mpr c7
     obtain rfl := Option.some.inj H
     have p386 : 0 ≤ (x5_1 : Int) := of_decide_eq_true nx_
     have q386 : x5_1 < (l0.length : Int) := of_decide_eq_true nx_
     obtain ⟨ad386, e386, hx386_0, hx386_1, hx386_2, hx386_3, hx386_4⟩ := at_T54 HR0.out x5_1 p386 q386
     cases e386
     replace p386 := eq_true p386
     replace q386 := eq_true q386
     have p387 : 0 ≤ (x5_1 : Int) := of_decide_eq_true nx_
     have q387 : x5_1 < (l0.length : Int) := of_decide_eq_true nx_
     obtain ⟨ad387, e387, hx387_0, hx387_1, hx387_2, hx387_3, hx387_4⟩ := at_T54 HR0.out x5_1 p387 q387
     obtain rfl : ad386 = ad387 := (by injection e387)
     replace p387 := eq_true p387
     replace q387 := eq_true q387
     have p388 : 0 ≤ (x5_1 : Int) := of_decide_eq_true nx_
     have q388 : x5_1 < (l0.length : Int) := of_decide_eq_true nx_
     obtain ⟨ad388, e388, hx388_0, hx388_1, hx388_2, hx388_3, hx388_4⟩ := at_T54 HR0.out x5_1 p388 q388
     obtain rfl : ad386 = ad388 := (by injection e388)
     replace p388 := eq_true p388
     replace q388 := eq_true q388
     go_wp2
     go_ret
     exact ⟨by first | rfl | (simp; done) | (simp [*]; done) | (simp [*]; exact Option.some.inj (Eq.trans (Eq.symm (Aside0.out (by assumption))) (Aside0.out (by assumption)))), by repeat (first | exact Drawn0.refl _ | apply Drawn0.step)⟩
    rw [if_pos c7] at H
    have c7b0 : (((rd_T54 l0 x5_1).f2) == (wrap64 ((wrap64 (x1_1 + 1)) + 1))) = true := beq_iff_eq.mpr c7
    have c7b1 : (((rd_T54 l0 x5_1).f2) != (wrap64 ((wrap64 (x1_1 + 1)) + 1))) = false := bne_eq_false_iff_eq.mpr c7
    clear c7
    by_cases c8 : ((rd_T54 l0 x5_1).f3) = (wrap64 ((wrap64 ((wrap64 (x1_1 + 1)) + 1)) + 1))
    rotate_left
    ·rw [if_neg c8] at H
     have c8b0 : (((rd_T54 l0 x5_1).f3) == (wrap64 ((wrap64 ((wrap64 (x1_1 + 1)) + 1)) + 1))) = false := beq_eq_false_iff_ne.mpr c8
     have c8b1 : (((rd_T54 l0 x5_1).f3) != (wrap64 ((wrap64 ((wrap64 (x1_1 + 1)) + 1)) + 1))) = true := bne_iff_ne.mpr c8
     obtain rfl := Option.some.inj H
     have p386 : 0 ≤ (x5_1 : Int) := of_decide_eq_true nx_
     have q386 : x5_1 < (l0.length : Int) := of_decide_eq_true nx_
     obtain ⟨ad386, e386, hx386_0, hx386_1, hx386_2, hx386_3, hx386_4⟩ := at_T54 HR0.out x5_1 p386 q386
     cases e386
     replace p386 := eq_true p386
     replace q386 := eq_true q386
     have p387 : 0 ≤ (x5_1 : Int) := of_decide_eq_true nx_
     have q387 : x5_1 < (l0.length : Int) := of_decide_eq_true nx_
     obtain ⟨ad387, e387, hx387_0, hx387_1, hx387_2, hx387_3, hx387_4⟩ := at_T54 HR0.out x5_1 p387 q387
     obtain rfl : ad386 = ad387 := (by injection e387)
     replace p387 := eq_true p387
     replace q387 := eq_true q387
     have p388 : 0 ≤ (x5_1 : Int) := of_decide_eq_true nx_
     have q388 : x5_1 < (l0.length : Int) := of_decide_eq_true nx_
     obtain ⟨ad388, e388, hx388_0, hx388_1, hx388_2, hx388_3, hx388_4⟩ := at_T54 HR0.out x5_1 p388 q388
     obtain rfl : ad386 = ad388 := (by injection e388)
     replace p388 := eq_true p388
     replace q388 := eq_true q388
     have p389 : 0 ≤ (x5_1 : Int) := of_decide_eq_true nx_
     have q389 : x5_1 < (l0.length : Int) := of_decide_eq_true nx_
     obtain ⟨ad389, e389, hx389_0, hx389_1, hx389_2, hx389_3, hx389_4⟩ := at_T54 HR0.out x5_1 p389 q389
     obtain rfl : ad386 = ad389 := (by injection e389)
     replace p389 := eq_true p389
     replace q389 := eq_true q389
     go_wp2
     go_ret
     exact ⟨by first | rfl | (simp; done) | (simp [*]; done) | (simp [*]; exact Option.some.inj (Eq.trans (Eq.symm (Aside0.out (by assumption))) (Aside0.out (by assumption)))), by repeat (first | exact Drawn0.refl _ | apply Drawn0.step)⟩
    rw [if_pos c8] at H
    have c8b0 : (((rd_T54 l0 x5_1).f3) == (wrap64 ((wrap64 ((wrap64 (x1_1 + 1)) + 1)) + 1))) = true := beq_iff_eq.mpr c8
    have c8b1 : (((rd_T54 l0 x5_1).f3) != (wrap64 ((wrap64 ((wrap64 (x1_1 + 1)) + 1)) + 1))) = false := bne_eq_false_iff_eq.mpr c8
    clear c8
    by_cases c9 : ((rd_T54 l0 x5_1).f4) = (wrap64 ((wrap64 ((wrap64 ((wrap64 (x1_1 + 1)) + 1)) + 1)) + 1))
    rotate_left
    ·rw [if_neg c9] at H
     have c9b0 : (((rd_T54 l0 x5_1).f4) == (wrap64 ((wrap64 ((wrap64 ((wrap64 (x1_1 + 1)) + 1)) + 1)) + 1))) = false := beq_eq_false_iff_ne.mpr c9
     have c9b1 : (((rd_T54 l0 x5_1).f4) != (wrap64 ((wrap64 ((wrap64 ((wrap64 (x1_1 + 1)) + 1)) + 1)) + 1))) = true := bne_iff_ne.mpr c9
     obtain rfl := Option.some.inj H
     have p386 : 0 ≤ (x5_1 : Int) := of_decide_eq_true nx_
     have q386 : x5_1 < (l0.length : Int) := of_decide_eq_true nx_
     obtain ⟨ad386, e386, hx386_0, hx386_1, hx386_2, hx386_3, hx386_4⟩ := at_T54 HR0.out x5_1 p386 q386
     cases e386
     replace p386 := eq_true p386
     replace q386 := eq_true q386
     have p387 : 0 ≤ (x5_1 : Int) := of_decide_eq_true nx_
     have q387 : x5_1 < (l0.length : Int) := of_decide_eq_true nx_
     obtain ⟨ad387, e387, hx387_0, hx387_1, hx387_2, hx387_3, hx387_4⟩ := at_T54 HR0.out x5_1 p387 q387
     obtain rfl : ad386 = ad387 := (by injection e387)
     replace p387 := eq_true p387
     replace q387 := eq_true q387
     have p388 : 0 ≤ (x5_1 : Int) := of_decide_eq_true nx_
     have q388 : x5_1 < (l0.length : Int) := of_decide_eq_true nx_
     obtain ⟨ad388, e388, hx388_0, hx388_1, hx388_2, hx388_3, hx388_4⟩ := at_T54 HR0.out x5_1 p388 q388
     obtain rfl : ad386 = ad388 := (by injection e388)
     replace p388 := eq_true p388
     replace q388 := eq_true q388
     have p389 : 0 ≤ (x5_1 : Int) := of_decide_eq_true nx_
     have q389 : x5_1 < (l0.length : Int) := of_decide_eq_true nx_
     obtain ⟨ad389, e389, hx389_0, hx389_1, hx389_2, hx389_3, hx389_4⟩ := at_T54 HR0.out x5_1 p389 q389
     obtain rfl : ad386 = ad389 := (by injection e389)
     replace p389 := eq_true p389
     replace q389 := eq_true q389
     have p390 : 0 ≤ (x5_1 : Int) := of_decide_eq_true nx_
     have q390 : x5_1 < (l0.length : Int) := of_decide_eq_true nx_
     obtain ⟨ad390, e390, hx390_0, hx390_1, hx390_2, hx390_3, hx390_4⟩ := at_T54 HR0.out x5_1 p390 q390
     obtain rfl : ad386 = ad390 := (by injection e390)
     replace p390 := eq_true p390
     replace q390 := eq_true q390
     go_wp2
     go_ret
     exact ⟨by first | rfl | (simp; done) | (simp [*]; done) | (simp [*]; exact Option.some.inj (Eq.trans (Eq.symm (Aside0.out (by assumption))) (Aside0.out (by assumption)))), by repeat (first | exact Drawn0.refl _ | apply Drawn0.step)⟩
    rw [if_pos c9] at H
    have c9b0 : (((rd_T54 l0 x5_1).f4) == (wrap64 ((wrap64 ((wrap64 ((wrap64 (x1_1 + 1)) + 1)) + 1)) + 1))) = true := beq_iff_eq.mpr c9
    have c9b1 : (((rd_T54 l0 x5_1).f4) != (wrap64 ((wrap64 ((wrap64 ((wrap64 (x1_1 + 1)) + 1)) + 1)) + 1))) = false := bne_eq_false_iff_eq.mpr c9
    clear c9
    have H' := Aside0.mk H
    clear H
    have p386 : 0 ≤ (x5_1 : Int) := of_decide_eq_true nx_
    have q386 : x5_1 < (l0.length : Int) := of_decide_eq_true nx_
    obtain ⟨ad386, e386, hx386_0, hx386_1, hx386_2, hx386_3, hx386_4⟩ := at_T54 HR0.out x5_1 p386 q386
    cases e386
    replace p386 := eq_true p386
    replace q386 := eq_true q386
    have p387 : 0 ≤ (x5_1 : Int) := of_decide_eq_true nx_
    have q387 : x5_1 < (l0.length : Int) := of_decide_eq_true nx_
    obtain ⟨ad387, e387, hx387_0, hx387_1, hx387_2, hx387_3, hx387_4⟩ := at_T54 HR0.out x5_1 p387 q387
    obtain rfl : ad386 = ad387 := (by injection e387)
    replace p387 := eq_true p387
    replace q387 := eq_true q387
    have p388 : 0 ≤ (x5_1 : Int) := of_decide_eq_true nx_
    have q388 : x5_1 < (l0.length : Int) := of_decide_eq_true nx_
    obtain ⟨ad388, e388, hx388_0, hx388_1, hx388_2, hx388_3, hx388_4⟩ := at_T54 HR0.out x5_1 p388 q388
    obtain rfl : ad386 = ad388 := (by injection e388)
    replace p388 := eq_true p388
    replace q388 := eq_true q388
    have p389 : 0 ≤ (x5_1 : Int) := of_decide_eq_true nx_
    have q389 : x5_1 < (l0.length : Int) := of_decide_eq_true nx_
    obtain ⟨ad389, e389, hx389_0, hx389_1, hx389_2, hx389_3, hx389_4⟩ := at_T54 HR0.out x5_1 p389 q389
    obtain rfl : ad386 = ad389 := (by injection e389)
    replace p389 := eq_true p389
    replace q389 := eq_true q389
    have p390 : 0 ≤ (x5_1 : Int) := of_decide_eq_true nx_
    have q390 : x5_1 < (l0.length : Int) := of_decide_eq_true nx_
    obtain ⟨ad390, e390, hx390_0, hx390_1, hx390_2, hx390_3, hx390_4⟩ := at_T54 HR0.out x5_1 p390 q390
    obtain rfl : ad386 = ad390 := (by injection e390)
    replace p390 := eq_true p390
    replace q390 := eq_true q390
    go_wp2
    go_roundg k1
    case measure => have := HK1.out; omega
    case rel => exact ⟨(wrap64 ((wrap64 ((wrap64 ((wrap64 ((wrap64 (x1_1 + 1)) + 1)) + 1)) + 1)) + 1)), (wrap64 (x5_1 + 1)), ns_, ns_, H', ⟨by have := HK1.out; omega⟩, by repeat (first | exact Drawn0.refl _ | apply Drawn0.step)⟩
end Go.Proofs.YtppjelkljihdoaaDoor.Print
