-- Made by this session's own program (wip/patch_print.py, over the kit's print). Lean checks it.
import Derived.Test.YtpjmkghmjpbldaaPrint0
namespace Go.Proofs.Ytpjmkghmjpbldaa.Print
open Go.RowKit Go.Proofs.YtpjmkghmjpbldaaW.PrintWords Go.Proofs.YtpjmkghmjpbldaaW.PrintLast Go.Proofs.YtpjmkghmjpbldaaW.PrintMore Go.Proofs.YtpjmkghmjpbldaaX
attribute [local go_sem] max2_int min2_int max_two min_two max_three min_three max_four min_four   -- for this text's walks alone
set_option linter.unusedVariables false
set_option linter.unusedSimpArgs false

/-! ### laws_heldArcS: function 74 -/
def laws_heldArcS.l0 : Nat → List (S37) → Int → Int → Option (Int)
  | 0, _, _, _ => none
  | k + 1, x0, x1, x5 => if x5 < (x0.length : Int) then (if 0 ≤ x5 then (if ((rd_T37 x0 x5).f0) = x1 then (if ((rd_T37 x0 x5).f1) = (wrap64 (x1 + 1)) then (if ((rd_T37 x0 x5).f2) = (wrap64 ((wrap64 (x1 + 1)) + 1)) then (if ((rd_T37 x0 x5).f3) = (wrap64 ((wrap64 ((wrap64 (x1 + 1)) + 1)) + 1)) then (if ((rd_T37 x0 x5).f4) = (wrap64 ((wrap64 ((wrap64 ((wrap64 (x1 + 1)) + 1)) + 1)) + 1)) then (laws_heldArcS.l0 k x0 (wrap64 ((wrap64 ((wrap64 ((wrap64 ((wrap64 (x1 + 1)) + 1)) + 1)) + 1)) + 1)) (wrap64 (x5 + 1))) else (some (-1))) else (some (-1))) else (some (-1))) else (some (-1))) else (some (-1))) else (none)) else (some x1)
def laws_heldArcS.f (k : Nat) (l0 : List (S37)) (a1 : Int) : Option (Int) := laws_heldArcS.l0 k l0 a1 0
theorem laws_heldArcS.mono_l : ∀ k, (∀ y0 y1 y2, LeO (laws_heldArcS.l0 k y0 y1 y2) (laws_heldArcS.l0 (k + 1) y0 y1 y2))
  | 0 => fun _ _ _ r h => by simp [laws_heldArcS.l0] at h
  | k + 1 => by
    have ih0 := laws_heldArcS.mono_l k
    · intro y0 y1 y2
      unfold laws_heldArcS.l0
      repeat' first | (with_reducible first | exact ih0 _ _ _ | exact LeO.refl _ | exact LeO.none _ | refine LeO.ite ?_ ?_ | refine LeO.bind ?_ (fun _ => ?_)) | exact ih0 _ _ _ | exact LeO.none _ | refine LeO.ite ?_ ?_ | refine LeO.bind ?_ (fun _ => ?_)
theorem laws_heldArcS.mono : ∀ a0 a1 k, LeO (laws_heldArcS.f k a0 a1) (laws_heldArcS.f (k + 1) a0 a1) := by
  intro a0 a1 k
  have ih0 := laws_heldArcS.mono_l k
  unfold laws_heldArcS.f
  repeat' first | (with_reducible first | exact ih0 _ _ _ | exact LeO.refl _ | exact LeO.none _ | refine LeO.ite ?_ ?_ | refine LeO.bind ?_ (fun _ => ?_)) | exact ih0 _ _ _ | exact LeO.none _ | refine LeO.ite ?_ ?_ | refine LeO.bind ?_ (fun _ => ?_)
set_option maxHeartbeats 200000000 in
set_option maxRecDepth 100000 in
theorem laws_heldArcS.calls (k : Nat) (A0 : Option Addr) (c0 : Nat) (l0 : List (S37)) (a1 : Int) (r : Int) (w : World) (hr0 : Kd.C k37 w A0 l0.length l0) (hc0 : l0.length ≤ c0) (h : laws_heldArcS.f k l0 a1 = some r) :
    Calls Try.prog 74 #[.slice A0 l0.length c0, .int .i64 a1] w fun e w' => e = .returned (.int .i64 r) ∧ Drawn0 w w' := by
  have HR0 := Aside0.mk hr0
  have HC0 := Aside0.mk hc0
  clear hr0 hc0
  have H : (laws_heldArcS.l0 k l0 a1 0) = some r := h
  clear h
  have H' := Aside0.mk H
  clear H
  go_enter Try.func74, Try.ntmps74
  go_wp2
  go_loopg [1, 5] k (fun kq v1 v5 w' => ∃ (x1_1 : Int) (x5_1 : Int), v1 = .int .i64 x1_1 ∧ v5 = .int .i64 x5_1 ∧ Aside0 (laws_heldArcS.l0 kq l0 x1_1 x5_1 = some r) ∧ Aside0 (kq ≤ k) ∧ Drawn0 w w')
  case atStart => exact ⟨(a1), (0), ns_, ns_, H', ⟨Nat.le_refl _⟩, by repeat (first | exact Drawn0.refl _ | apply Drawn0.step)⟩
  case round =>
   clear H'
   obtain ⟨x1_1, x5_1, rfl, rfl, HA, HK1, ⟨m1, rfl⟩⟩ := hrel
   cases gk with
   | zero => exact absurd HA.out (by simp [laws_heldArcS.l0])
   | succ k1 =>
    have H := HA.out
    clear HA
    simp only [laws_heldArcS.l0] at H
    by_cases c3 : x5_1 < (l0.length : Int)
    rotate_left
    ·rw [if_neg c3] at H
     have c3b0 : decide (x5_1 < (l0.length : Int)) = false := decide_eq_false c3
     clear c3
     obtain rfl := Option.some.inj H
     go_wp2
     go_ret
     exact ⟨by first | rfl | (simp; done) | (simp [*]; done) | (simp [*]; exact Option.some.inj (Eq.trans (Eq.symm (Aside0.out (by assumption))) (Aside0.out (by assumption)))), by repeat (first | exact Drawn0.refl _ | apply Drawn0.step)⟩

    rw [if_pos c3] at H
    have c3b0 : decide (x5_1 < (l0.length : Int)) = true := decide_eq_true c3
    clear c3
    by_cases c4 : 0 ≤ x5_1
    rotate_left
    ·rw [if_neg c4] at H
     exact absurd H (by simp)
    rw [if_pos c4] at H
    have c4b0 : decide (0 ≤ x5_1) = true := decide_eq_true c4
    clear c4
    by_cases c5 : ((rd_T37 l0 x5_1).f0) = x1_1
    rotate_left
    ·rw [if_neg c5] at H
     have c5b0 : (((rd_T37 l0 x5_1).f0) == x1_1) = false := beq_eq_false_iff_ne.mpr c5
     have c5b1 : (((rd_T37 l0 x5_1).f0) != x1_1) = true := bne_iff_ne.mpr c5
     obtain rfl := Option.some.inj H
     have p426 : 0 ≤ (x5_1 : Int) := of_decide_eq_true nx_
     have q426 : x5_1 < (l0.length : Int) := of_decide_eq_true nx_
     obtain ⟨ad426, e426, hx426_0, hx426_1, hx426_2, hx426_3, hx426_4⟩ := at_T37 HR0.out x5_1 p426 q426
     cases e426
     replace p426 := eq_true p426
     replace q426 := eq_true q426
     go_wp2
     go_ret
     exact ⟨by first | rfl | (simp; done) | (simp [*]; done) | (simp [*]; exact Option.some.inj (Eq.trans (Eq.symm (Aside0.out (by assumption))) (Aside0.out (by assumption)))), by repeat (first | exact Drawn0.refl _ | apply Drawn0.step)⟩
    rw [if_pos c5] at H
    have c5b0 : (((rd_T37 l0 x5_1).f0) == x1_1) = true := beq_iff_eq.mpr c5
    have c5b1 : (((rd_T37 l0 x5_1).f0) != x1_1) = false := bne_eq_false_iff_eq.mpr c5
    clear c5
    by_cases c6 : ((rd_T37 l0 x5_1).f1) = (wrap64 (x1_1 + 1))
    rotate_left
    ·rw [if_neg c6] at H
     have c6b0 : (((rd_T37 l0 x5_1).f1) == (wrap64 (x1_1 + 1))) = false := beq_eq_false_iff_ne.mpr c6
     have c6b1 : (((rd_T37 l0 x5_1).f1) != (wrap64 (x1_1 + 1))) = true := bne_iff_ne.mpr c6
     obtain rfl := Option.some.inj H
     have p426 : 0 ≤ (x5_1 : Int) := of_decide_eq_true nx_
     have q426 : x5_1 < (l0.length : Int) := of_decide_eq_true nx_
     obtain ⟨ad426, e426, hx426_0, hx426_1, hx426_2, hx426_3, hx426_4⟩ := at_T37 HR0.out x5_1 p426 q426
     cases e426
     replace p426 := eq_true p426
     replace q426 := eq_true q426
     have p427 : 0 ≤ (x5_1 : Int) := of_decide_eq_true nx_
     have q427 : x5_1 < (l0.length : Int) := of_decide_eq_true nx_
     obtain ⟨ad427, e427, hx427_0, hx427_1, hx427_2, hx427_3, hx427_4⟩ := at_T37 HR0.out x5_1 p427 q427
     obtain rfl : ad426 = ad427 := (by injection e427)
     replace p427 := eq_true p427
     replace q427 := eq_true q427
     go_wp2
     go_ret
     exact ⟨by first | rfl | (simp; done) | (simp [*]; done) | (simp [*]; exact Option.some.inj (Eq.trans (Eq.symm (Aside0.out (by assumption))) (Aside0.out (by assumption)))), by repeat (first | exact Drawn0.refl _ | apply Drawn0.step)⟩
    rw [if_pos c6] at H
    have c6b0 : (((rd_T37 l0 x5_1).f1) == (wrap64 (x1_1 + 1))) = true := beq_iff_eq.mpr c6
    have c6b1 : (((rd_T37 l0 x5_1).f1) != (wrap64 (x1_1 + 1))) = false := bne_eq_false_iff_eq.mpr c6
    clear c6
    by_cases c7 : ((rd_T37 l0 x5_1).f2) = (wrap64 ((wrap64 (x1_1 + 1)) + 1))
    rotate_left
    ·rw [if_neg c7] at H
     have c7b0 : (((rd_T37 l0 x5_1).f2) == (wrap64 ((wrap64 (x1_1 + 1)) + 1))) = false := beq_eq_false_iff_ne.mpr c7
     have c7b1 : (((rd_T37 l0 x5_1).f2) != (wrap64 ((wrap64 (x1_1 + 1)) + 1))) = true := bne_iff_ne.mpr c7
     obtain rfl := Option.some.inj H
     have p426 : 0 ≤ (x5_1 : Int) := of_decide_eq_true nx_
     have q426 : x5_1 < (l0.length : Int) := of_decide_eq_true nx_
     obtain ⟨ad426, e426, hx426_0, hx426_1, hx426_2, hx426_3, hx426_4⟩ := at_T37 HR0.out x5_1 p426 q426
     cases e426
     replace p426 := eq_true p426
     replace q426 := eq_true q426
     have p427 : 0 ≤ (x5_1 : Int) := of_decide_eq_true nx_
     have q427 : x5_1 < (l0.length : Int) := of_decide_eq_true nx_
     obtain ⟨ad427, e427, hx427_0, hx427_1, hx427_2, hx427_3, hx427_4⟩ := at_T37 HR0.out x5_1 p427 q427
     obtain rfl : ad426 = ad427 := (by injection e427)
     replace p427 := eq_true p427
     replace q427 := eq_true q427
     have p428 : 0 ≤ (x5_1 : Int) := of_decide_eq_true nx_
     have q428 : x5_1 < (l0.length : Int) := of_decide_eq_true nx_
     obtain ⟨ad428, e428, hx428_0, hx428_1, hx428_2, hx428_3, hx428_4⟩ := at_T37 HR0.out x5_1 p428 q428
     obtain rfl : ad426 = ad428 := (by injection e428)
     replace p428 := eq_true p428
     replace q428 := eq_true q428
     go_wp2
     go_ret
     exact ⟨by first | rfl | (simp; done) | (simp [*]; done) | (simp [*]; exact Option.some.inj (Eq.trans (Eq.symm (Aside0.out (by assumption))) (Aside0.out (by assumption)))), by repeat (first | exact Drawn0.refl _ | apply Drawn0.step)⟩
    rw [if_pos c7] at H
    have c7b0 : (((rd_T37 l0 x5_1).f2) == (wrap64 ((wrap64 (x1_1 + 1)) + 1))) = true := beq_iff_eq.mpr c7
    have c7b1 : (((rd_T37 l0 x5_1).f2) != (wrap64 ((wrap64 (x1_1 + 1)) + 1))) = false := bne_eq_false_iff_eq.mpr c7
    clear c7
    by_cases c8 : ((rd_T37 l0 x5_1).f3) = (wrap64 ((wrap64 ((wrap64 (x1_1 + 1)) + 1)) + 1))
    rotate_left
    ·rw [if_neg c8] at H
     have c8b0 : (((rd_T37 l0 x5_1).f3) == (wrap64 ((wrap64 ((wrap64 (x1_1 + 1)) + 1)) + 1))) = false := beq_eq_false_iff_ne.mpr c8
     have c8b1 : (((rd_T37 l0 x5_1).f3) != (wrap64 ((wrap64 ((wrap64 (x1_1 + 1)) + 1)) + 1))) = true := bne_iff_ne.mpr c8
     obtain rfl := Option.some.inj H
     have p426 : 0 ≤ (x5_1 : Int) := of_decide_eq_true nx_
     have q426 : x5_1 < (l0.length : Int) := of_decide_eq_true nx_
     obtain ⟨ad426, e426, hx426_0, hx426_1, hx426_2, hx426_3, hx426_4⟩ := at_T37 HR0.out x5_1 p426 q426
     cases e426
     replace p426 := eq_true p426
     replace q426 := eq_true q426
     have p427 : 0 ≤ (x5_1 : Int) := of_decide_eq_true nx_
     have q427 : x5_1 < (l0.length : Int) := of_decide_eq_true nx_
     obtain ⟨ad427, e427, hx427_0, hx427_1, hx427_2, hx427_3, hx427_4⟩ := at_T37 HR0.out x5_1 p427 q427
     obtain rfl : ad426 = ad427 := (by injection e427)
     replace p427 := eq_true p427
     replace q427 := eq_true q427
     have p428 : 0 ≤ (x5_1 : Int) := of_decide_eq_true nx_
     have q428 : x5_1 < (l0.length : Int) := of_decide_eq_true nx_
     obtain ⟨ad428, e428, hx428_0, hx428_1, hx428_2, hx428_3, hx428_4⟩ := at_T37 HR0.out x5_1 p428 q428
     obtain rfl : ad426 = ad428 := (by injection e428)
     replace p428 := eq_true p428
     replace q428 := eq_true q428
     have p429 : 0 ≤ (x5_1 : Int) := of_decide_eq_true nx_
     have q429 : x5_1 < (l0.length : Int) := of_decide_eq_true nx_
     obtain ⟨ad429, e429, hx429_0, hx429_1, hx429_2, hx429_3, hx429_4⟩ := at_T37 HR0.out x5_1 p429 q429
     obtain rfl : ad426 = ad429 := (by injection e429)
     replace p429 := eq_true p429
     replace q429 := eq_true q429
     go_wp2
     go_ret
     exact ⟨by first | rfl | (simp; done) | (simp [*]; done) | (simp [*]; exact Option.some.inj (Eq.trans (Eq.symm (Aside0.out (by assumption))) (Aside0.out (by assumption)))), by repeat (first | exact Drawn0.refl _ | apply Drawn0.step)⟩
    rw [if_pos c8] at H
    have c8b0 : (((rd_T37 l0 x5_1).f3) == (wrap64 ((wrap64 ((wrap64 (x1_1 + 1)) + 1)) + 1))) = true := beq_iff_eq.mpr c8
    have c8b1 : (((rd_T37 l0 x5_1).f3) != (wrap64 ((wrap64 ((wrap64 (x1_1 + 1)) + 1)) + 1))) = false := bne_eq_false_iff_eq.mpr c8
    clear c8
    by_cases c9 : ((rd_T37 l0 x5_1).f4) = (wrap64 ((wrap64 ((wrap64 ((wrap64 (x1_1 + 1)) + 1)) + 1)) + 1))
    rotate_left
    ·rw [if_neg c9] at H
     have c9b0 : (((rd_T37 l0 x5_1).f4) == (wrap64 ((wrap64 ((wrap64 ((wrap64 (x1_1 + 1)) + 1)) + 1)) + 1))) = false := beq_eq_false_iff_ne.mpr c9
     have c9b1 : (((rd_T37 l0 x5_1).f4) != (wrap64 ((wrap64 ((wrap64 ((wrap64 (x1_1 + 1)) + 1)) + 1)) + 1))) = true := bne_iff_ne.mpr c9
     obtain rfl := Option.some.inj H
     have p426 : 0 ≤ (x5_1 : Int) := of_decide_eq_true nx_
     have q426 : x5_1 < (l0.length : Int) := of_decide_eq_true nx_
     obtain ⟨ad426, e426, hx426_0, hx426_1, hx426_2, hx426_3, hx426_4⟩ := at_T37 HR0.out x5_1 p426 q426
     cases e426
     replace p426 := eq_true p426
     replace q426 := eq_true q426
     have p427 : 0 ≤ (x5_1 : Int) := of_decide_eq_true nx_
     have q427 : x5_1 < (l0.length : Int) := of_decide_eq_true nx_
     obtain ⟨ad427, e427, hx427_0, hx427_1, hx427_2, hx427_3, hx427_4⟩ := at_T37 HR0.out x5_1 p427 q427
     obtain rfl : ad426 = ad427 := (by injection e427)
     replace p427 := eq_true p427
     replace q427 := eq_true q427
     have p428 : 0 ≤ (x5_1 : Int) := of_decide_eq_true nx_
     have q428 : x5_1 < (l0.length : Int) := of_decide_eq_true nx_
     obtain ⟨ad428, e428, hx428_0, hx428_1, hx428_2, hx428_3, hx428_4⟩ := at_T37 HR0.out x5_1 p428 q428
     obtain rfl : ad426 = ad428 := (by injection e428)
     replace p428 := eq_true p428
     replace q428 := eq_true q428
     have p429 : 0 ≤ (x5_1 : Int) := of_decide_eq_true nx_
     have q429 : x5_1 < (l0.length : Int) := of_decide_eq_true nx_
     obtain ⟨ad429, e429, hx429_0, hx429_1, hx429_2, hx429_3, hx429_4⟩ := at_T37 HR0.out x5_1 p429 q429
     obtain rfl : ad426 = ad429 := (by injection e429)
     replace p429 := eq_true p429
     replace q429 := eq_true q429
     have p430 : 0 ≤ (x5_1 : Int) := of_decide_eq_true nx_
     have q430 : x5_1 < (l0.length : Int) := of_decide_eq_true nx_
     obtain ⟨ad430, e430, hx430_0, hx430_1, hx430_2, hx430_3, hx430_4⟩ := at_T37 HR0.out x5_1 p430 q430
     obtain rfl : ad426 = ad430 := (by injection e430)
     replace p430 := eq_true p430
     replace q430 := eq_true q430
     go_wp2
     go_ret
     exact ⟨by first | rfl | (simp; done) | (simp [*]; done) | (simp [*]; exact Option.some.inj (Eq.trans (Eq.symm (Aside0.out (by assumption))) (Aside0.out (by assumption)))), by repeat (first | exact Drawn0.refl _ | apply Drawn0.step)⟩
    rw [if_pos c9] at H
    have c9b0 : (((rd_T37 l0 x5_1).f4) == (wrap64 ((wrap64 ((wrap64 ((wrap64 (x1_1 + 1)) + 1)) + 1)) + 1))) = true := beq_iff_eq.mpr c9
    have c9b1 : (((rd_T37 l0 x5_1).f4) != (wrap64 ((wrap64 ((wrap64 ((wrap64 (x1_1 + 1)) + 1)) + 1)) + 1))) = false := bne_eq_false_iff_eq.mpr c9
    clear c9
    have H' := Aside0.mk H
    clear H
    have p426 : 0 ≤ (x5_1 : Int) := of_decide_eq_true nx_
    have q426 : x5_1 < (l0.length : Int) := of_decide_eq_true nx_
    obtain ⟨ad426, e426, hx426_0, hx426_1, hx426_2, hx426_3, hx426_4⟩ := at_T37 HR0.out x5_1 p426 q426
    cases e426
    replace p426 := eq_true p426
    replace q426 := eq_true q426
    have p427 : 0 ≤ (x5_1 : Int) := of_decide_eq_true nx_
    have q427 : x5_1 < (l0.length : Int) := of_decide_eq_true nx_
    obtain ⟨ad427, e427, hx427_0, hx427_1, hx427_2, hx427_3, hx427_4⟩ := at_T37 HR0.out x5_1 p427 q427
    obtain rfl : ad426 = ad427 := (by injection e427)
    replace p427 := eq_true p427
    replace q427 := eq_true q427
    have p428 : 0 ≤ (x5_1 : Int) := of_decide_eq_true nx_
    have q428 : x5_1 < (l0.length : Int) := of_decide_eq_true nx_
    obtain ⟨ad428, e428, hx428_0, hx428_1, hx428_2, hx428_3, hx428_4⟩ := at_T37 HR0.out x5_1 p428 q428
    obtain rfl : ad426 = ad428 := (by injection e428)
    replace p428 := eq_true p428
    replace q428 := eq_true q428
    have p429 : 0 ≤ (x5_1 : Int) := of_decide_eq_true nx_
    have q429 : x5_1 < (l0.length : Int) := of_decide_eq_true nx_
    obtain ⟨ad429, e429, hx429_0, hx429_1, hx429_2, hx429_3, hx429_4⟩ := at_T37 HR0.out x5_1 p429 q429
    obtain rfl : ad426 = ad429 := (by injection e429)
    replace p429 := eq_true p429
    replace q429 := eq_true q429
    have p430 : 0 ≤ (x5_1 : Int) := of_decide_eq_true nx_
    have q430 : x5_1 < (l0.length : Int) := of_decide_eq_true nx_
    obtain ⟨ad430, e430, hx430_0, hx430_1, hx430_2, hx430_3, hx430_4⟩ := at_T37 HR0.out x5_1 p430 q430
    obtain rfl : ad426 = ad430 := (by injection e430)
    replace p430 := eq_true p430
    replace q430 := eq_true q430
    go_wp2
    go_roundg k1
    case measure => have := HK1.out; omega
    case rel => exact ⟨(wrap64 ((wrap64 ((wrap64 ((wrap64 ((wrap64 (x1_1 + 1)) + 1)) + 1)) + 1)) + 1)), (wrap64 (x5_1 + 1)), ns_, ns_, H', ⟨by have := HK1.out; omega⟩, by repeat (first | exact Drawn0.refl _ | apply Drawn0.step)⟩
end Go.Proofs.Ytpjmkghmjpbldaa.Print
