-- Made by this session's own program (wip/patch_print.py, over the kit's print). Lean checks it.
import Derived.Test.YtcfmejfmjjgoaaaPrint0
import Derived.Test.YtcfmejfmjjgoaaaPrintB
namespace Go.Proofs.Ytcfmejfmjjgoaaa.Print
open Go.RowKit Go.Proofs.YtcfmejfmjjgoaaaW.PrintWords Go.Proofs.YtcfmejfmjjgoaaaW.PrintLast Go.Proofs.YtcfmejfmjjgoaaaW.PrintMore Go.Proofs.YtcfmejfmjjgoaaaX
attribute [local go_sem] max2_int min2_int max_two min_two max_three min_three max_four min_four   -- for this text's walks alone
set_option linter.unusedVariables false
set_option linter.unusedSimpArgs false

/-! ### spec_l4Walk: function 61 -/
def spec_l4Walk.l0 : Nat → List (S31) → List Int → Int → Int → Option (Int)
  | 0, _, _, _, _ => none
  | k + 1, x1, x2, x7, x8 => if x8 < (x2.length : Int) then (if 0 ≤ (wrap64 (x8 - 1)) then (if (wrap64 (x8 - 1)) < (x2.length : Int) then (if 0 ≤ x8 then ((spec_l4Cost.f k x1 (rd x2 (wrap64 (x8 - 1))) (rd x2 x8)).bind fun t481 => (if t481 < 0 then (some (-1)) else (spec_l4Walk.l0 k x1 x2 (wrap64 (x7 + t481)) (wrap64 (x8 + 1))))) else (none)) else (none)) else (none)) else (some x7)
def spec_l4Walk.f (k : Nat) (a0_0 : Int) (l0_1 : List (S33)) (l1 : List (S31)) (l2 : List Int) : Option (Int) := (spec_l2Cost.f k a0_0 l0_1 l2).bind fun t478 => (spec_l4Walk.l0 k l1 l2 t478 1)
set_option maxHeartbeats 200000000 in
set_option maxRecDepth 100000 in
theorem spec_l4Walk.calls (k : Nat) (a0_0 : Int) (A0_1 : Option Addr) (c0_1 : Nat) (l0_1 : List (S33)) (A1 : Option Addr) (c1 : Nat) (l1 : List (S31)) (A2 : Option Addr) (c2 : Nat) (l2 : List Int) (r : Int) (w : World) (hr0_1 : Kd.C k33 w A0_1 l0_1.length l0_1) (hc0_1 : l0_1.length ≤ c0_1) (hr1 : Kd.C k31 w A1 l1.length l1) (hc1 : l1.length ≤ c1) (hr2 : Kd.C (Kd.int .i64) w A2 l2.length l2) (hc2 : l2.length ≤ c2) (h : spec_l4Walk.f k a0_0 l0_1 l1 l2 = some r) :
    Calls Try.prog 61 #[.agg #[.int .i64 a0_0, .slice A0_1 l0_1.length c0_1], .slice A1 l1.length c1, .slice A2 l2.length c2] w fun e w' => e = .returned (.int .i64 r) ∧ Below w.heap.size w w' := by
  have hu25 := Try.underlying25
  have HR0_1 := Aside0.mk hr0_1
  have HC0_1 := Aside0.mk hc0_1
  clear hr0_1 hc0_1
  have HR1 := Aside0.mk hr1
  have HC1 := Aside0.mk hc1
  clear hr1 hc1
  have HR2 := Aside0.mk hr2
  have HC2 := Aside0.mk hc2
  clear hr2 hc2
  have HB := Aside0.mk (Below.refl w.heap.size w)
  have H : ((spec_l2Cost.f k a0_0 l0_1 l2).bind fun t478 => (spec_l4Walk.l0 k l1 l2 t478 1)) = some r := h
  clear h
  replace H := Option.bind_eq_some_iff.mp H
  obtain ⟨t478, A40, H⟩ := H
  replace H : (spec_l4Walk.l0 k l1 l2 t478 1) = some r := H
  have A4 := Aside0.mk A40
  clear A40
  have H' := Aside0.mk H
  clear H
  go_enter Try.func61, Try.ntmps61
  go_wp2_with (first | ((with_reducible refine gate_dst (N := 3) rfl ?_); refine bx_ 3 #[.int .i64 a0_0, .slice A0_1 l0_1.length c0_1] 25 ?_; intro gb477 hg w5 hbox hb; have BK477 := Aside0.mk (hbox); have GW477 := Aside0.mk (zs_ hg (ne_ HB.out)); have GE477 := Aside0.mk (zs_ hg (ne_ HB.out)); replace HB := kB_ HB hb; clear hb hbox hg; obtain ⟨hcz6_0, hcz6_1, hfz6_0, hfz6_1⟩ := cz2_ BK477.out) | (go_at_call 84; (with_reducible refine (spec_l2Cost.calls k a0_0 _ _ l0_1 _ _ l2 t478 _ ?side1 ?side2 ?side3 ?side4 A4.out).mono ?_); (case side1 => exact nc_ (Kd.C_below HR0_1.out HB.out)); (case side2 => exact HC0_1.out); (case side3 => exact nc_ (Kd.C_below HR2.out HB.out)); (case side4 => exact HC2.out); rintro e w7 ⟨rfl, hb⟩; replace BK477 := kb_ BK477 hb; replace HB := kB_ HB hb; (try clear hb); (try clear hb2); (try clear hk); (try clear hi)))
  repeat (go_quiet (first | ((with_reducible refine gate_dst (N := 3) rfl ?_); refine bx_ 3 #[.int .i64 a0_0, .slice A0_1 l0_1.length c0_1] 25 ?_; intro gb477 hg w5 hbox hb; have BK477 := Aside0.mk (hbox); have GW477 := Aside0.mk (zs_ hg (ne_ HB.out)); have GE477 := Aside0.mk (zs_ hg (ne_ HB.out)); replace HB := kB_ HB hb; clear hb hbox hg; obtain ⟨hcz6_0, hcz6_1, hfz6_0, hfz6_1⟩ := cz2_ BK477.out) | (go_at_call 84; (with_reducible refine (spec_l2Cost.calls k a0_0 _ _ l0_1 _ _ l2 t478 _ ?side1 ?side2 ?side3 ?side4 A4.out).mono ?_); (case side1 => exact nc_ (Kd.C_below HR0_1.out HB.out)); (case side2 => exact HC0_1.out); (case side3 => exact nc_ (Kd.C_below HR2.out HB.out)); (case side4 => exact HC2.out); rintro e w7 ⟨rfl, hb⟩; replace BK477 := kb_ BK477 hb; replace HB := kB_ HB hb; (try clear hb); (try clear hb2); (try clear hk); (try clear hi))); try go_wp2_with (first | ((with_reducible refine gate_dst (N := 3) rfl ?_); refine bx_ 3 #[.int .i64 a0_0, .slice A0_1 l0_1.length c0_1] 25 ?_; intro gb477 hg w5 hbox hb; have BK477 := Aside0.mk (hbox); have GW477 := Aside0.mk (zs_ hg (ne_ HB.out)); have GE477 := Aside0.mk (zs_ hg (ne_ HB.out)); replace HB := kB_ HB hb; clear hb hbox hg; obtain ⟨hcz6_0, hcz6_1, hfz6_0, hfz6_1⟩ := cz2_ BK477.out) | (go_at_call 84; (with_reducible refine (spec_l2Cost.calls k a0_0 _ _ l0_1 _ _ l2 t478 _ ?side1 ?side2 ?side3 ?side4 A4.out).mono ?_); (case side1 => exact nc_ (Kd.C_below HR0_1.out HB.out)); (case side2 => exact HC0_1.out); (case side3 => exact nc_ (Kd.C_below HR2.out HB.out)); (case side4 => exact HC2.out); rintro e w7 ⟨rfl, hb⟩; replace BK477 := kb_ BK477 hb; replace HB := kB_ HB hb; (try clear hb); (try clear hb2); (try clear hk); (try clear hi))))
  go_loopg [7, 8] k (fun kq v7 v8 w' => ∃ (x7_1 : Int) (x8_1 : Int), v7 = .int .i64 x7_1 ∧ v8 = .int .i64 x8_1 ∧ Aside0 (spec_l4Walk.l0 kq l1 l2 x7_1 x8_1 = some r) ∧ Aside0 (kq ≤ k) ∧ Aside0 (w'.heap[gb477]? = some (.cells #[.int .i64 a0_0, (.slice A0_1 l0_1.length c0_1)] 25 (0, 0))) ∧ Aside0 (Below w.heap.size w w'))
  case atStart => exact ⟨(t478), (1), ns_, ns_, H', ⟨Nat.le_refl _⟩, ⟨nb_ BK477.out⟩, ⟨ne_ HB.out⟩⟩
  case round =>
   clear H'
   try clear c1
   try clear c2
   try clear hcz6_0
   try clear hcz6_1
   try clear hfz6_0
   try clear hfz6_1
   obtain ⟨x7_1, x8_1, rfl, rfl, HA, HK1, BK477, HB⟩ := hrel
   cases gk with
   | zero => exact absurd HA.out (by simp [spec_l4Walk.l0])
   | succ k1 =>
    have H := HA.out
    clear HA
    simp only [spec_l4Walk.l0] at H
    by_cases c8 : x8_1 < (l2.length : Int)
    rotate_left
    ·rw [if_neg c8] at H
     have c8b0 : decide (x8_1 < (l2.length : Int)) = false := decide_eq_false c8
     clear c8
     obtain rfl := Option.some.inj H
     go_wp2
     repeat (go_quiet (fail); try go_wp2)
     go_ret
     exact ⟨nw_, ne_ HB.out⟩

    rw [if_pos c8] at H
    have c8b0 : decide (x8_1 < (l2.length : Int)) = true := decide_eq_true c8
    clear c8
    obtain ⟨ji9, hji9⟩ : ∃ j_ : Int, (wrap64 (x8_1 - 1)) = j_ := ⟨_, rfl⟩
    replace H : (if 0 ≤ (ji9) then (if (ji9) < (l2.length : Int) then (if 0 ≤ x8_1 then ((spec_l4Cost.f k1 l1 (rd l2 (ji9)) (rd l2 x8_1)).bind fun t481 => (if t481 < 0 then (some (-1)) else (spec_l4Walk.l0 k1 l1 l2 (wrap64 (x7_1 + t481)) (wrap64 (x8_1 + 1))))) else (none)) else (none)) else (none)) = some r := by first | (rw [hji9] at H; exact H) | (simp only [hji9] at H ⊢; exact H)
    have hji9w : (IntKind.i64.wrap (x8_1 - 1)) = ji9 := (i64_w _).trans hji9
    by_cases c10 : 0 ≤ (ji9)
    rotate_left
    ·rw [if_neg c10] at H
     exact absurd H (by simp)
    rw [if_pos c10] at H
    have c10b0 : decide (0 ≤ (ji9)) = true := decide_eq_true c10
    clear c10
    by_cases c11 : (ji9) < (l2.length : Int)
    rotate_left
    ·rw [if_neg c11] at H
     exact absurd H (by simp)
    rw [if_pos c11] at H
    have c11b0 : decide ((ji9) < (l2.length : Int)) = true := decide_eq_true c11
    clear c11
    by_cases c12 : 0 ≤ x8_1
    rotate_left
    ·rw [if_neg c12] at H
     exact absurd H (by simp)
    rw [if_pos c12] at H
    have c12b0 : decide (0 ≤ x8_1) = true := decide_eq_true c12
    clear c12
    replace H := Option.bind_eq_some_iff.mp H
    obtain ⟨t481, A130, H⟩ := H
    replace H : (if t481 < 0 then (some (-1)) else (spec_l4Walk.l0 k1 l1 l2 (wrap64 (x7_1 + t481)) (wrap64 (x8_1 + 1)))) = some r := H
    have A13 := Aside0.mk A130
    clear A130
    by_cases c14 : t481 < 0
    rotate_left
    ·rw [if_neg c14] at H
     have c14b0 : decide (t481 < 0) = false := decide_eq_false c14
     clear c14
     have H' := Aside0.mk H
     clear H
     have p479 : 0 ≤ ((ji9) : Int) := of_decide_eq_true nx_
     have q479 : (ji9) < (l2.length : Int) := of_decide_eq_true nx_
     obtain ⟨ad479, e479, hx479_0⟩ := Kd.at_int HR2.out (ji9) p479 q479
     cases e479
     replace hx479_0 := hb_ HB.out hx479_0
     replace p479 := eq_true p479
     replace q479 := eq_true q479
     have p480 : 0 ≤ (x8_1 : Int) := of_decide_eq_true nx_
     have q480 : x8_1 < (l2.length : Int) := of_decide_eq_true nx_
     obtain ⟨ad480, e480, hx480_0⟩ := Kd.at_int HR2.out x8_1 p480 q480
     obtain rfl : ad479 = ad480 := (by injection e480)
     replace hx480_0 := hb_ HB.out hx480_0
     replace p480 := eq_true p480
     replace q480 := eq_true q480
     go_wp2_with (first | (go_at_call 68; (with_reducible refine (spec_l4Cost.calls k1 _ _ l1 (rd l2 (ji9)) (rd l2 x8_1) t481 _ ?side1 ?side2 A13.out).mono ?_); (case side1 => exact nc_ (Kd.C_below HR1.out HB.out)); (case side2 => exact HC1.out); rintro e w' ⟨rfl, ⟨nd, rfl⟩⟩; (try first | exact ⟨rfl, _, World.drewN_drewN _ _ _⟩ | exact ⟨rfl, _, Eq.trans (World.drewN_drewN _ _ _) (congrArg (World.drewN _) (Nat.add_assoc _ _ _))⟩)))
     repeat (go_quiet (first | (go_at_call 68; (with_reducible refine (spec_l4Cost.calls k1 _ _ l1 (rd l2 (ji9)) (rd l2 x8_1) t481 _ ?side1 ?side2 A13.out).mono ?_); (case side1 => exact nc_ (Kd.C_below HR1.out HB.out)); (case side2 => exact HC1.out); rintro e w' ⟨rfl, ⟨nd, rfl⟩⟩; (try first | exact ⟨rfl, _, World.drewN_drewN _ _ _⟩ | exact ⟨rfl, _, Eq.trans (World.drewN_drewN _ _ _) (congrArg (World.drewN _) (Nat.add_assoc _ _ _))⟩))); try go_wp2_with (first | (go_at_call 68; (with_reducible refine (spec_l4Cost.calls k1 _ _ l1 (rd l2 (ji9)) (rd l2 x8_1) t481 _ ?side1 ?side2 A13.out).mono ?_); (case side1 => exact nc_ (Kd.C_below HR1.out HB.out)); (case side2 => exact HC1.out); rintro e w' ⟨rfl, ⟨nd, rfl⟩⟩; (try first | exact ⟨rfl, _, World.drewN_drewN _ _ _⟩ | exact ⟨rfl, _, Eq.trans (World.drewN_drewN _ _ _) (congrArg (World.drewN _) (Nat.add_assoc _ _ _))⟩))))
     go_roundg k1
     case measure => have := HK1.out; omega
     case rel => exact ⟨(wrap64 (x7_1 + t481)), (wrap64 (x8_1 + 1)), ns_, ns_, H', ⟨by have := HK1.out; omega⟩, ⟨nb_ BK477.out⟩, ⟨ne_ HB.out⟩⟩
    rw [if_pos c14] at H
    have c14b0 : decide (t481 < 0) = true := decide_eq_true c14
    clear c14
    obtain rfl := Option.some.inj H
    have p479 : 0 ≤ ((ji9) : Int) := of_decide_eq_true nx_
    have q479 : (ji9) < (l2.length : Int) := of_decide_eq_true nx_
    obtain ⟨ad479, e479, hx479_0⟩ := Kd.at_int HR2.out (ji9) p479 q479
    cases e479
    replace hx479_0 := hb_ HB.out hx479_0
    replace p479 := eq_true p479
    replace q479 := eq_true q479
    have p480 : 0 ≤ (x8_1 : Int) := of_decide_eq_true nx_
    have q480 : x8_1 < (l2.length : Int) := of_decide_eq_true nx_
    obtain ⟨ad480, e480, hx480_0⟩ := Kd.at_int HR2.out x8_1 p480 q480
    obtain rfl : ad479 = ad480 := (by injection e480)
    replace hx480_0 := hb_ HB.out hx480_0
    replace p480 := eq_true p480
    replace q480 := eq_true q480
    go_wp2_with (first | (go_at_call 68; (with_reducible refine (spec_l4Cost.calls k1 _ _ l1 (rd l2 (ji9)) (rd l2 x8_1) t481 _ ?side1 ?side2 A13.out).mono ?_); (case side1 => exact nc_ (Kd.C_below HR1.out HB.out)); (case side2 => exact HC1.out); rintro e w' ⟨rfl, ⟨nd, rfl⟩⟩; (try first | exact ⟨rfl, _, World.drewN_drewN _ _ _⟩ | exact ⟨rfl, _, Eq.trans (World.drewN_drewN _ _ _) (congrArg (World.drewN _) (Nat.add_assoc _ _ _))⟩)))
    repeat (go_quiet (first | (go_at_call 68; (with_reducible refine (spec_l4Cost.calls k1 _ _ l1 (rd l2 (ji9)) (rd l2 x8_1) t481 _ ?side1 ?side2 A13.out).mono ?_); (case side1 => exact nc_ (Kd.C_below HR1.out HB.out)); (case side2 => exact HC1.out); rintro e w' ⟨rfl, ⟨nd, rfl⟩⟩; (try first | exact ⟨rfl, _, World.drewN_drewN _ _ _⟩ | exact ⟨rfl, _, Eq.trans (World.drewN_drewN _ _ _) (congrArg (World.drewN _) (Nat.add_assoc _ _ _))⟩))); try go_wp2_with (first | (go_at_call 68; (with_reducible refine (spec_l4Cost.calls k1 _ _ l1 (rd l2 (ji9)) (rd l2 x8_1) t481 _ ?side1 ?side2 A13.out).mono ?_); (case side1 => exact nc_ (Kd.C_below HR1.out HB.out)); (case side2 => exact HC1.out); rintro e w' ⟨rfl, ⟨nd, rfl⟩⟩; (try first | exact ⟨rfl, _, World.drewN_drewN _ _ _⟩ | exact ⟨rfl, _, Eq.trans (World.drewN_drewN _ _ _) (congrArg (World.drewN _) (Nat.add_assoc _ _ _))⟩))))
    go_ret
    exact ⟨by first | rfl | (simp [errW_none, errW_some] <;> rfl) | (simp only [← hji9]; first | rfl | (simp [errW_none, errW_some] <;> rfl)) | (simp [*, errW_none, errW_some] <;> rfl), ne_ HB.out⟩
end Go.Proofs.Ytcfmejfmjjgoaaa.Print
