-- Made by this session's own program (wip/patch_print.py, over the kit's print). Lean checks it.
import Derived.Test.YtcfmejfmjjgoaaaPrint0
namespace Go.Proofs.Ytcfmejfmjjgoaaa.Print
open Go.RowKit Go.Proofs.YtcfmejfmjjgoaaaW.PrintWords Go.Proofs.YtcfmejfmjjgoaaaW.PrintLast Go.Proofs.YtcfmejfmjjgoaaaW.PrintMore Go.Proofs.YtcfmejfmjjgoaaaX
attribute [local go_sem] max2_int min2_int max_two min_two max_three min_three max_four min_four   -- for this text's walks alone
set_option linter.unusedVariables false
set_option linter.unusedSimpArgs false

/-! ### laws_heldArcS: function 71 -/
def laws_heldArcS.l0 : Nat → List (S33) → Int → Int → Option (Int)
  | 0, _, _, _ => none
  | k + 1, x0, x1, x5 => if x5 < (x0.length : Int) then (if 0 ≤ x5 then (if ((rd_T33 x0 x5).f0) = x1 then (if ((rd_T33 x0 x5).f1) = (wrap64 (x1 + 1)) then (if ((rd_T33 x0 x5).f2) = (wrap64 ((wrap64 (x1 + 1)) + 1)) then (if ((rd_T33 x0 x5).f3) = (wrap64 ((wrap64 ((wrap64 (x1 + 1)) + 1)) + 1)) then (if ((rd_T33 x0 x5).f4) = (wrap64 ((wrap64 ((wrap64 ((wrap64 (x1 + 1)) + 1)) + 1)) + 1)) then (laws_heldArcS.l0 k x0 (wrap64 ((wrap64 ((wrap64 ((wrap64 ((wrap64 (x1 + 1)) + 1)) + 1)) + 1)) + 1)) (wrap64 (x5 + 1))) else (some (-1))) else (some (-1))) else (some (-1))) else (some (-1))) else (some (-1))) else (none)) else (some x1)
def laws_heldArcS.f (k : Nat) (l0 : List (S33)) (a1 : Int) : Option (Int) := laws_heldArcS.l0 k l0 a1 0
set_option maxHeartbeats 200000000 in
set_option maxRecDepth 100000 in
theorem laws_heldArcS.calls (k : Nat) (A0 : Option Addr) (c0 : Nat) (l0 : List (S33)) (a1 : Int) (r : Int) (w : World) (hr0 : Kd.C k33 w A0 l0.length l0) (hc0 : l0.length ≤ c0) (h : laws_heldArcS.f k l0 a1 = some r) :
    Calls Try.prog 71 #[.slice A0 l0.length c0, .int .i64 a1] w fun e w' => e = .returned (.int .i64 r) ∧ Drawn0 w w' := by
  have HR0 := Aside0.mk hr0
  have HC0 := Aside0.mk hc0
  clear hr0 hc0
  have H : (laws_heldArcS.l0 k l0 a1 0) = some r := h
  clear h
  have H' := Aside0.mk H
  clear H
  go_enter Try.func71, Try.ntmps71
  go_wp2
  go_loopg [1, 5] k (fun kq v1 v5 w' => ∃ (x1_1 : Int) (x5_1 : Int), v1 = .int .i64 x1_1 ∧ v5 = .int .i64 x5_1 ∧ Aside0 (laws_heldArcS.l0 kq l0 x1_1 x5_1 = some r) ∧ Aside0 (kq ≤ k) ∧ Drawn0 w w')
  case atStart => exact ⟨(a1), (0), ns_, ns_, H', ⟨Nat.le_refl _⟩, by repeat (first | exact Drawn0.refl _ | apply Drawn0.step)⟩
  case round =>
   clear H'
   obtain ⟨x1_1, x5_1, rfl, rfl, HA, HK1, ⟨m1, rfl⟩⟩ := hrel
   cases gk with
   | zero => exact absurd HA.out (by simp [laws_heldArcS.l0])
   | succ k1 =>
    have H := HA.out
    clear HA
    simp only [laws_heldArcS.l0] at H
    by_cases c3 : x5_1 < (l0.length : Int)
    rotate_left
    ·rw [if_neg c3] at H
     have c3b0 : decide (x5_1 < (l0.length : Int)) = false := decide_eq_false c3
     clear c3
     obtain rfl := Option.some.inj H
     go_wp2
     go_ret
     exact ⟨by first | rfl | (simp; done) | (simp [*]; done) | (simp [*]; exact Option.some.inj (Eq.trans (Eq.symm (Aside0.out (by assumption))) (Aside0.out (by assumption)))), by repeat (first | exact Drawn0.refl _ | apply Drawn0.step)⟩

    rw [if_pos c3] at H
    have c3b0 : decide (x5_1 < (l0.length : Int)) = true := decide_eq_true c3
    clear c3
    by_cases c4 : 0 ≤ x5_1
    rotate_left
    ·rw [if_neg c4] at H
     exact absurd H (by simp)
    rw [if_pos c4] at H
    have c4b0 : decide (0 ≤ x5_1) = true := decide_eq_true c4
    clear c4
    by_cases c5 : ((rd_T33 l0 x5_1).f0) = x1_1
    rotate_left
    ·rw [if_neg c5] at H
     have c5b0 : (((rd_T33 l0 x5_1).f0) == x1_1) = false := beq_eq_false_iff_ne.mpr c5
     have c5b1 : (((rd_T33 l0 x5_1).f0) != x1_1) = true := bne_iff_ne.mpr c5
     obtain rfl := Option.some.inj H
     have p751 : 0 ≤ (x5_1 : Int) := of_decide_eq_true nx_
     have q751 : x5_1 < (l0.length : Int) := of_decide_eq_true nx_
     obtain ⟨ad751, e751, hx751_0, hx751_1, hx751_2, hx751_3, hx751_4⟩ := at_T33 HR0.out x5_1 p751 q751
     cases e751
     replace p751 := eq_true p751
     replace q751 := eq_true q751
     go_wp2
     go_ret
     exact ⟨by first | rfl | (simp; done) | (simp [*]; done) | (simp [*]; exact Option.some.inj (Eq.trans (Eq.symm (Aside0.out (by assumption))) (Aside0.out (by assumption)))), by repeat (first | exact Drawn0.refl _ | apply Drawn0.step)⟩
    rw [if_pos c5] at H
    have c5b0 : (((rd_T33 l0 x5_1).f0) == x1_1) = true := beq_iff_eq.mpr c5
    have c5b1 : (((rd_T33 l0 x5_1).f0) != x1_1) = false := bne_eq_false_iff_eq.mpr c5
    clear c5
    by_cases c6 : ((rd_T33 l0 x5_1).f1) = (wrap64 (x1_1 + 1))
    rotate_left
    ·rw [if_neg c6] at H
     have c6b0 : (((rd_T33 l0 x5_1).f1) == (wrap64 (x1_1 + 1))) = false := beq_eq_false_iff_ne.mpr c6
     have c6b1 : (((rd_T33 l0 x5_1).f1) != (wrap64 (x1_1 + 1))) = true := bne_iff_ne.mpr c6
     obtain rfl := Option.some.inj H
     have p751 : 0 ≤ (x5_1 : Int) := of_decide_eq_true nx_
     have q751 : x5_1 < (l0.length : Int) := of_decide_eq_true nx_
     obtain ⟨ad751, e751, hx751_0, hx751_1, hx751_2, hx751_3, hx751_4⟩ := at_T33 HR0.out x5_1 p751 q751
     cases e751
     replace p751 := eq_true p751
     replace q751 := eq_true q751
     have p752 : 0 ≤ (x5_1 : Int) := of_decide_eq_true nx_
     have q752 : x5_1 < (l0.length : Int) := of_decide_eq_true nx_
     obtain ⟨ad752, e752, hx752_0, hx752_1, hx752_2, hx752_3, hx752_4⟩ := at_T33 HR0.out x5_1 p752 q752
     obtain rfl : ad751 = ad752 := (by injection e752)
     replace p752 := eq_true p752
     replace q752 := eq_true q752
     go_wp2
     go_ret
     exact ⟨by first | rfl | (simp; done) | (simp [*]; done) | (simp [*]; exact Option.some.inj (Eq.trans (Eq.symm (Aside0.out (by assumption))) (Aside0.out (by assumption)))), by repeat (first | exact Drawn0.refl _ | apply Drawn0.step)⟩
    rw [if_pos c6] at H
    have c6b0 : (((rd_T33 l0 x5_1).f1) == (wrap64 (x1_1 + 1))) = true := beq_iff_eq.mpr c6
    have c6b1 : (((rd_T33 l0 x5_1).f1) != (wrap64 (x1_1 + 1))) = false := bne_eq_false_iff_eq.mpr c6
    clear c6
    by_cases c7 : ((rd_T33 l0 x5_1).f2) = (wrap64 ((wrap64 (x1_1 + 1)) + 1))
    rotate_left
    ·rw [if_neg c7] at H
     have c7b0 : (((rd_T33 l0 x5_1).f2) == (wrap64 ((wrap64 (x1_1 + 1)) + 1))) = false := beq_eq_false_iff_ne.mpr c7
     have c7b1 : (((rd_T33 l0 x5_1).f2) != (wrap64 ((wrap64 (x1_1 + 1)) + 1))) = true := bne_iff_ne.mpr c7
     obtain rfl := Option.some.inj H
     have p751 : 0 ≤ (x5_1 : Int) := of_decide_eq_true nx_
     have q751 : x5_1 < (l0.length : Int) := of_decide_eq_true nx_
     obtain ⟨ad751, e751, hx751_0, hx751_1, hx751_2, hx751_3, hx751_4⟩ := at_T33 HR0.out x5_1 p751 q751
     cases e751
     replace p751 := eq_true p751
     replace q751 := eq_true q751
     have p752 : 0 ≤ (x5_1 : Int) := of_decide_eq_true nx_
     have q752 : x5_1 < (l0.length : Int) := of_decide_eq_true nx_
     obtain ⟨ad752, e752, hx752_0, hx752_1, hx752_2, hx752_3, hx752_4⟩ := at_T33 HR0.out x5_1 p752 q752
     obtain rfl : ad751 = ad752 := (by injection e752)
     replace p752 := eq_true p752
     replace q752 := eq_true q752
     have p753 : 0 ≤ (x5_1 : Int) := of_decide_eq_true nx_
     have q753 : x5_1 < (l0.length : Int) := of_decide_eq_true nx_
     obtain ⟨ad753, e753, hx753_0, hx753_1, hx753_2, hx753_3, hx753_4⟩ := at_T33 HR0.out x5_1 p753 q753
     obtain rfl : ad751 = ad753 := (by injection e753)
     replace p753 := eq_true p753
     replace q753 := eq_true q753
     go_wp2
     go_ret
     exact ⟨by first | rfl | (simp; done) | (simp [*]; done) | (simp [*]; exact Option.some.inj (Eq.trans (Eq.symm (Aside0.out (by assumption))) (Aside0.out (by assumption)))), by repeat (first | exact Drawn0.refl _ | apply Drawn0.step)⟩
    rw [if_pos c7] at H
    have c7b0 : (((rd_T33 l0 x5_1).f2) == (wrap64 ((wrap64 (x1_1 + 1)) + 1))) = true := beq_iff_eq.mpr c7
    have c7b1 : (((rd_T33 l0 x5_1).f2) != (wrap64 ((wrap64 (x1_1 + 1)) + 1))) = false := bne_eq_false_iff_eq.mpr c7
    clear c7
    by_cases c8 : ((rd_T33 l0 x5_1).f3) = (wrap64 ((wrap64 ((wrap64 (x1_1 + 1)) + 1)) + 1))
    rotate_left
    ·rw [if_neg c8] at H
     have c8b0 : (((rd_T33 l0 x5_1).f3) == (wrap64 ((wrap64 ((wrap64 (x1_1 + 1)) + 1)) + 1))) = false := beq_eq_false_iff_ne.mpr c8
     have c8b1 : (((rd_T33 l0 x5_1).f3) != (wrap64 ((wrap64 ((wrap64 (x1_1 + 1)) + 1)) + 1))) = true := bne_iff_ne.mpr c8
     obtain rfl := Option.some.inj H
     have p751 : 0 ≤ (x5_1 : Int) := of_decide_eq_true nx_
     have q751 : x5_1 < (l0.length : Int) := of_decide_eq_true nx_
     obtain ⟨ad751, e751, hx751_0, hx751_1, hx751_2, hx751_3, hx751_4⟩ := at_T33 HR0.out x5_1 p751 q751
     cases e751
     replace p751 := eq_true p751
     replace q751 := eq_true q751
     have p752 : 0 ≤ (x5_1 : Int) := of_decide_eq_true nx_
     have q752 : x5_1 < (l0.length : Int) := of_decide_eq_true nx_
     obtain ⟨ad752, e752, hx752_0, hx752_1, hx752_2, hx752_3, hx752_4⟩ := at_T33 HR0.out x5_1 p752 q752
     obtain rfl : ad751 = ad752 := (by injection e752)
     replace p752 := eq_true p752
     replace q752 := eq_true q752
     have p753 : 0 ≤ (x5_1 : Int) := of_decide_eq_true nx_
     have q753 : x5_1 < (l0.length : Int) := of_decide_eq_true nx_
     obtain ⟨ad753, e753, hx753_0, hx753_1, hx753_2, hx753_3, hx753_4⟩ := at_T33 HR0.out x5_1 p753 q753
     obtain rfl : ad751 = ad753 := (by injection e753)
     replace p753 := eq_true p753
     replace q753 := eq_true q753
     have p754 : 0 ≤ (x5_1 : Int) := of_decide_eq_true nx_
     have q754 : x5_1 < (l0.length : Int) := of_decide_eq_true nx_
     obtain ⟨ad754, e754, hx754_0, hx754_1, hx754_2, hx754_3, hx754_4⟩ := at_T33 HR0.out x5_1 p754 q754
     obtain rfl : ad751 = ad754 := (by injection e754)
     replace p754 := eq_true p754
     replace q754 := eq_true q754
     go_wp2
     go_ret
     exact ⟨by first | rfl | (simp; done) | (simp [*]; done) | (simp [*]; exact Option.some.inj (Eq.trans (Eq.symm (Aside0.out (by assumption))) (Aside0.out (by assumption)))), by repeat (first | exact Drawn0.refl _ | apply Drawn0.step)⟩
    rw [if_pos c8] at H
    have c8b0 : (((rd_T33 l0 x5_1).f3) == (wrap64 ((wrap64 ((wrap64 (x1_1 + 1)) + 1)) + 1))) = true := beq_iff_eq.mpr c8
    have c8b1 : (((rd_T33 l0 x5_1).f3) != (wrap64 ((wrap64 ((wrap64 (x1_1 + 1)) + 1)) + 1))) = false := bne_eq_false_iff_eq.mpr c8
    clear c8
    by_cases c9 : ((rd_T33 l0 x5_1).f4) = (wrap64 ((wrap64 ((wrap64 ((wrap64 (x1_1 + 1)) + 1)) + 1)) + 1))
    rotate_left
    ·rw [if_neg c9] at H
     have c9b0 : (((rd_T33 l0 x5_1).f4) == (wrap64 ((wrap64 ((wrap64 ((wrap64 (x1_1 + 1)) + 1)) + 1)) + 1))) = false := beq_eq_false_iff_ne.mpr c9
     have c9b1 : (((rd_T33 l0 x5_1).f4) != (wrap64 ((wrap64 ((wrap64 ((wrap64 (x1_1 + 1)) + 1)) + 1)) + 1))) = true := bne_iff_ne.mpr c9
     obtain rfl := Option.some.inj H
     have p751 : 0 ≤ (x5_1 : Int) := of_decide_eq_true nx_
     have q751 : x5_1 < (l0.length : Int) := of_decide_eq_true nx_
     obtain ⟨ad751, e751, hx751_0, hx751_1, hx751_2, hx751_3, hx751_4⟩ := at_T33 HR0.out x5_1 p751 q751
     cases e751
     replace p751 := eq_true p751
     replace q751 := eq_true q751
     have p752 : 0 ≤ (x5_1 : Int) := of_decide_eq_true nx_
     have q752 : x5_1 < (l0.length : Int) := of_decide_eq_true nx_
     obtain ⟨ad752, e752, hx752_0, hx752_1, hx752_2, hx752_3, hx752_4⟩ := at_T33 HR0.out x5_1 p752 q752
     obtain rfl : ad751 = ad752 := (by injection e752)
     replace p752 := eq_true p752
     replace q752 := eq_true q752
     have p753 : 0 ≤ (x5_1 : Int) := of_decide_eq_true nx_
     have q753 : x5_1 < (l0.length : Int) := of_decide_eq_true nx_
     obtain ⟨ad753, e753, hx753_0, hx753_1, hx753_2, hx753_3, hx753_4⟩ := at_T33 HR0.out x5_1 p753 q753
     obtain rfl : ad751 = ad753 := (by injection e753)
     replace p753 := eq_true p753
     replace q753 := eq_true q753
     have p754 : 0 ≤ (x5_1 : Int) := of_decide_eq_true nx_
     have q754 : x5_1 < (l0.length : Int) := of_decide_eq_true nx_
     obtain ⟨ad754, e754, hx754_0, hx754_1, hx754_2, hx754_3, hx754_4⟩ := at_T33 HR0.out x5_1 p754 q754
     obtain rfl : ad751 = ad754 := (by injection e754)
     replace p754 := eq_true p754
     replace q754 := eq_true q754
     have p755 : 0 ≤ (x5_1 : Int) := of_decide_eq_true nx_
     have q755 : x5_1 < (l0.length : Int) := of_decide_eq_true nx_
     obtain ⟨ad755, e755, hx755_0, hx755_1, hx755_2, hx755_3, hx755_4⟩ := at_T33 HR0.out x5_1 p755 q755
     obtain rfl : ad751 = ad755 := (by injection e755)
     replace p755 := eq_true p755
     replace q755 := eq_true q755
     go_wp2
     go_ret
     exact ⟨by first | rfl | (simp; done) | (simp [*]; done) | (simp [*]; exact Option.some.inj (Eq.trans (Eq.symm (Aside0.out (by assumption))) (Aside0.out (by assumption)))), by repeat (first | exact Drawn0.refl _ | apply Drawn0.step)⟩
    rw [if_pos c9] at H
    have c9b0 : (((rd_T33 l0 x5_1).f4) == (wrap64 ((wrap64 ((wrap64 ((wrap64 (x1_1 + 1)) + 1)) + 1)) + 1))) = true := beq_iff_eq.mpr c9
    have c9b1 : (((rd_T33 l0 x5_1).f4) != (wrap64 ((wrap64 ((wrap64 ((wrap64 (x1_1 + 1)) + 1)) + 1)) + 1))) = false := bne_eq_false_iff_eq.mpr c9
    clear c9
    have H' := Aside0.mk H
    clear H
    have p751 : 0 ≤ (x5_1 : Int) := of_decide_eq_true nx_
    have q751 : x5_1 < (l0.length : Int) := of_decide_eq_true nx_
    obtain ⟨ad751, e751, hx751_0, hx751_1, hx751_2, hx751_3, hx751_4⟩ := at_T33 HR0.out x5_1 p751 q751
    cases e751
    replace p751 := eq_true p751
    replace q751 := eq_true q751
    have p752 : 0 ≤ (x5_1 : Int) := of_decide_eq_true nx_
    have q752 : x5_1 < (l0.length : Int) := of_decide_eq_true nx_
    obtain ⟨ad752, e752, hx752_0, hx752_1, hx752_2, hx752_3, hx752_4⟩ := at_T33 HR0.out x5_1 p752 q752
    obtain rfl : ad751 = ad752 := (by injection e752)
    replace p752 := eq_true p752
    replace q752 := eq_true q752
    have p753 : 0 ≤ (x5_1 : Int) := of_decide_eq_true nx_
    have q753 : x5_1 < (l0.length : Int) := of_decide_eq_true nx_
    obtain ⟨ad753, e753, hx753_0, hx753_1, hx753_2, hx753_3, hx753_4⟩ := at_T33 HR0.out x5_1 p753 q753
    obtain rfl : ad751 = ad753 := (by injection e753)
    replace p753 := eq_true p753
    replace q753 := eq_true q753
    have p754 : 0 ≤ (x5_1 : Int) := of_decide_eq_true nx_
    have q754 : x5_1 < (l0.length : Int) := of_decide_eq_true nx_
    obtain ⟨ad754, e754, hx754_0, hx754_1, hx754_2, hx754_3, hx754_4⟩ := at_T33 HR0.out x5_1 p754 q754
    obtain rfl : ad751 = ad754 := (by injection e754)
    replace p754 := eq_true p754
    replace q754 := eq_true q754
    have p755 : 0 ≤ (x5_1 : Int) := of_decide_eq_true nx_
    have q755 : x5_1 < (l0.length : Int) := of_decide_eq_true nx_
    obtain ⟨ad755, e755, hx755_0, hx755_1, hx755_2, hx755_3, hx755_4⟩ := at_T33 HR0.out x5_1 p755 q755
    obtain rfl : ad751 = ad755 := (by injection e755)
    replace p755 := eq_true p755
    replace q755 := eq_true q755
    go_wp2
    go_roundg k1
    case measure => have := HK1.out; omega
    case rel => exact ⟨(wrap64 ((wrap64 ((wrap64 ((wrap64 ((wrap64 (x1_1 + 1)) + 1)) + 1)) + 1)) + 1)), (wrap64 (x5_1 + 1)), ns_, ns_, H', ⟨by have := HK1.out; omega⟩, by repeat (first | exact Drawn0.refl _ | apply Drawn0.step)⟩
end Go.Proofs.Ytcfmejfmjjgoaaa.Print
