-- Made by this session's own program (wip/patch_print.py, over the kit's print). Lean checks it.
import Derived.Test.YtcfmejfmjjgoaaaPrint0
namespace Go.Proofs.Ytcfmejfmjjgoaaa.Print
open Go.RowKit Go.Proofs.YtcfmejfmjjgoaaaW.PrintWords Go.Proofs.YtcfmejfmjjgoaaaW.PrintLast Go.Proofs.YtcfmejfmjjgoaaaW.PrintMore Go.Proofs.YtcfmejfmjjgoaaaX
attribute [local go_sem] max2_int min2_int max_two min_two max_three min_three max_four min_four   -- for this text's walks alone
set_option linter.unusedVariables false
set_option linter.unusedSimpArgs false

/-! ### impl_turning: function 59 -/
def impl_turning.l0 : Nat → Int → Int → List (S31) → Int → Int → Option (Int)
  | 0, _, _, _, _, _ => none
  | k + 1, x1, x2, x9, x10, x11 => if x11 < x10 then (if 0 ≤ x11 then (if x11 < (x9.length : Int) then (if ((rd_T31 x9 x11).f0) = x1 then (if ((rd_T31 x9 x11).f1) = x2 then (some ((rd_T31 x9 x11).f2)) else (impl_turning.l0 k x1 x2 x9 x10 (wrap64 (x11 + 1)))) else (impl_turning.l0 k x1 x2 x9 x10 (wrap64 (x11 + 1)))) else (none)) else (none)) else (some 0)
def impl_turning.f (k : Nat) (l0 : List (S31)) (a1 : Int) (a2 : Int) : Option (Int) := impl_turning.l0 k a1 a2 l0 (l0.length : Int) 0
set_option maxHeartbeats 200000000 in
set_option maxRecDepth 100000 in
theorem impl_turning.calls (k : Nat) (A0 : Option Addr) (c0 : Nat) (l0 : List (S31)) (a1 : Int) (a2 : Int) (r : Int) (w : World) (hr0 : Kd.C k31 w A0 l0.length l0) (hc0 : l0.length ≤ c0) (h : impl_turning.f k l0 a1 a2 = some r) :
    Calls Try.prog 59 #[.slice A0 l0.length c0, .int .i64 a1, .int .i64 a2] w fun e w' => e = .returned (.int .i64 r) ∧ Below w.heap.size w w' := by
  have hu31 := Try.underlying31
  have HR0 := Aside0.mk hr0
  have HC0 := Aside0.mk hc0
  clear hr0 hc0
  have HB := Aside0.mk (Below.refl w.heap.size w)
  have H : (impl_turning.l0 k a1 a2 l0 (l0.length : Int) 0) = some r := h
  clear h
  have H' := Aside0.mk H
  clear H
  go_enter Try.func59, Try.ntmps59
  go_wp2
  go_loopg [11] k (fun kq v11 w' => ∃ (x11_1 : Int), v11 = .int .i64 x11_1 ∧ Aside0 (impl_turning.l0 kq a1 a2 l0 (l0.length : Int) x11_1 = some r) ∧ Aside0 (kq ≤ k) ∧ Aside0 (Below w.heap.size w w'))
  case atStart => exact ⟨(0), ns_, H', ⟨Nat.le_refl _⟩, ⟨ne_ HB.out⟩⟩
  case round =>
   clear H'
   obtain ⟨x11_1, rfl, HA, HK1, HB⟩ := hrel
   cases gk with
   | zero => exact absurd HA.out (by simp [impl_turning.l0])
   | succ k1 =>
    have H := HA.out
    clear HA
    simp only [impl_turning.l0] at H
    by_cases c4 : x11_1 < (l0.length : Int)
    rotate_left
    ·rw [if_neg c4] at H
     have c4b0 : decide (x11_1 < (l0.length : Int)) = false := decide_eq_false c4
     clear c4
     obtain rfl := Option.some.inj H
     go_wp2
     go_ret
     exact ⟨nw_, ne_ HB.out⟩

    rw [if_pos c4] at H
    have c4b0 : decide (x11_1 < (l0.length : Int)) = true := decide_eq_true c4
    clear c4
    by_cases c5 : 0 ≤ x11_1
    rotate_left
    ·rw [if_neg c5] at H
     exact absurd H (by simp)
    rw [if_pos c5] at H
    have c5b0 : decide (0 ≤ x11_1) = true := decide_eq_true c5
    clear c5
    by_cases c6 : x11_1 < (l0.length : Int)
    rotate_left
    ·rw [if_neg c6] at H
     exact absurd H (by simp)
    rw [if_pos c6] at H
    have c6b0 : decide (x11_1 < (l0.length : Int)) = true := decide_eq_true c6
    clear c6
    by_cases c7 : ((rd_T31 l0 x11_1).f0) = a1
    rotate_left
    ·rw [if_neg c7] at H
     have c7b0 : (((rd_T31 l0 x11_1).f0) == a1) = false := beq_eq_false_iff_ne.mpr c7
     have c7b1 : (((rd_T31 l0 x11_1).f0) != a1) = true := bne_iff_ne.mpr c7
     have H' := Aside0.mk H
     clear H
     have p455 : 0 ≤ (x11_1 : Int) := of_decide_eq_true nx_
     have q455 : x11_1 < (l0.length : Int) := of_decide_eq_true nx_
     obtain ⟨ad455, e455, hx455_0, hx455_1, hx455_2⟩ := at_T31 HR0.out x11_1 p455 q455
     cases e455
     replace hx455_0 := hb_ HB.out hx455_0
     replace hx455_1 := hb_ HB.out hx455_1
     replace hx455_2 := hb_ HB.out hx455_2
     replace p455 := eq_true p455
     replace q455 := eq_true q455
     go_wp2_with (first | ((with_reducible refine gate_dst (N := 8) rfl ?_); refine bx_ 8 #[.int .i64 0, .int .i64 0, .int .i64 0] 31 ?_; intro gb456 hg w13 hbox hb; have BK456 := Aside0.mk (hbox); have GW456 := Aside0.mk (zs_ hg (ne_ HB.out)); have GE456 := Aside0.mk (zs_ hg (ne_ HB.out)); replace HB := kB_ HB hb; clear hb hbox hg; obtain ⟨hcz14_0, hcz14_1, hcz14_2, hfz14_0, hfz14_1, hfz14_2⟩ := cz3_ BK456.out))
     go_roundg k1
     case measure => have := HK1.out; omega
     case rel => exact ⟨(wrap64 (x11_1 + 1)), ns_, H', ⟨by have := HK1.out; omega⟩, ⟨ne_ HB.out⟩⟩
    rw [if_pos c7] at H
    have c7b0 : (((rd_T31 l0 x11_1).f0) == a1) = true := beq_iff_eq.mpr c7
    have c7b1 : (((rd_T31 l0 x11_1).f0) != a1) = false := bne_eq_false_iff_eq.mpr c7
    clear c7
    by_cases c8 : ((rd_T31 l0 x11_1).f1) = a2
    ·rw [if_pos c8] at H
     have c8b0 : (((rd_T31 l0 x11_1).f1) == a2) = true := beq_iff_eq.mpr c8
     have c8b1 : (((rd_T31 l0 x11_1).f1) != a2) = false := bne_eq_false_iff_eq.mpr c8
     clear c8
     obtain rfl := Option.some.inj H
     have p455 : 0 ≤ (x11_1 : Int) := of_decide_eq_true nx_
     have q455 : x11_1 < (l0.length : Int) := of_decide_eq_true nx_
     obtain ⟨ad455, e455, hx455_0, hx455_1, hx455_2⟩ := at_T31 HR0.out x11_1 p455 q455
     cases e455
     replace hx455_0 := hb_ HB.out hx455_0
     replace hx455_1 := hb_ HB.out hx455_1
     replace hx455_2 := hb_ HB.out hx455_2
     replace p455 := eq_true p455
     replace q455 := eq_true q455
     go_wp2_with (first | ((with_reducible refine gate_dst (N := 8) rfl ?_); refine bx_ 8 #[.int .i64 0, .int .i64 0, .int .i64 0] 31 ?_; intro gb456 hg w9 hbox hb; have BK456 := Aside0.mk (hbox); have GW456 := Aside0.mk (zs_ hg (ne_ HB.out)); have GE456 := Aside0.mk (zs_ hg (ne_ HB.out)); replace HB := kB_ HB hb; clear hb hbox hg; obtain ⟨hcz10_0, hcz10_1, hcz10_2, hfz10_0, hfz10_1, hfz10_2⟩ := cz3_ BK456.out))
     go_ret
     exact ⟨nw_, ne_ HB.out⟩
    rw [if_neg c8] at H
    have c8b0 : (((rd_T31 l0 x11_1).f1) == a2) = false := beq_eq_false_iff_ne.mpr c8
    have c8b1 : (((rd_T31 l0 x11_1).f1) != a2) = true := bne_iff_ne.mpr c8
    have H' := Aside0.mk H
    clear H
    have p455 : 0 ≤ (x11_1 : Int) := of_decide_eq_true nx_
    have q455 : x11_1 < (l0.length : Int) := of_decide_eq_true nx_
    obtain ⟨ad455, e455, hx455_0, hx455_1, hx455_2⟩ := at_T31 HR0.out x11_1 p455 q455
    cases e455
    replace hx455_0 := hb_ HB.out hx455_0
    replace hx455_1 := hb_ HB.out hx455_1
    replace hx455_2 := hb_ HB.out hx455_2
    replace p455 := eq_true p455
    replace q455 := eq_true q455
    go_wp2_with (first | ((with_reducible refine gate_dst (N := 8) rfl ?_); refine bx_ 8 #[.int .i64 0, .int .i64 0, .int .i64 0] 31 ?_; intro gb456 hg w11 hbox hb; have BK456 := Aside0.mk (hbox); have GW456 := Aside0.mk (zs_ hg (ne_ HB.out)); have GE456 := Aside0.mk (zs_ hg (ne_ HB.out)); replace HB := kB_ HB hb; clear hb hbox hg; obtain ⟨hcz12_0, hcz12_1, hcz12_2, hfz12_0, hfz12_1, hfz12_2⟩ := cz3_ BK456.out))
    go_roundg k1
    case measure => have := HK1.out; omega
    case rel => exact ⟨(wrap64 (x11_1 + 1)), ns_, H', ⟨by have := HK1.out; omega⟩, ⟨ne_ HB.out⟩⟩
end Go.Proofs.Ytcfmejfmjjgoaaa.Print
