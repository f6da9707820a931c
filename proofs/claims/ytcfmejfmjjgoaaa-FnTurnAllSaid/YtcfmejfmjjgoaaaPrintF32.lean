-- Made by this session's own program (wip/patch_print.py, over the kit's print). Lean checks it.
import Derived.Test.YtcfmejfmjjgoaaaPrint0
import Derived.Test.YtcfmejfmjjgoaaaPrintB
import Derived.Test.YtcfmejfmjjgoaaaPrintF50
import Derived.Test.YtcfmejfmjjgoaaaPrintF51
import Derived.Test.YtcfmejfmjjgoaaaPrintF67
namespace Go.Proofs.Ytcfmejfmjjgoaaa.Print
open Go.RowKit Go.Proofs.YtcfmejfmjjgoaaaW.PrintWords Go.Proofs.YtcfmejfmjjgoaaaW.PrintLast Go.Proofs.YtcfmejfmjjgoaaaW.PrintMore Go.Proofs.YtcfmejfmjjgoaaaX
attribute [local go_sem] max2_int min2_int max_two min_two max_three min_three max_four min_four   -- for this text's walks alone
set_option linter.unusedVariables false
set_option linter.unusedSimpArgs false

/-! ### spec_TurnAll: function 32 -/
def spec_TurnAll.f (k : Nat) (a0_0 : Int) (l0_1 : List (S33)) (l1 : List (S31)) (a2 : Int) : Option (List Int) := (spec_l1Ok.f k a0_0 l0_1).bind fun t665 => (if t665 = true then ((spec_l4Ok.f k a0_0 l0_1 l1).bind fun t666 => (if t666 = true then ((spec_l1In.f a2 0 (wrap64 (a0_0 - 1))).bind fun t667 => (if t667 = true then ((spec_l4All.f k a0_0 l0_1 l1 a2).bind fun t668 => (some t668)) else (some ([] : List Int)))) else (some ([] : List Int)))) else (some ([] : List Int)))
set_option maxHeartbeats 200000000 in
set_option maxRecDepth 100000 in
theorem spec_TurnAll.calls (k : Nat) (a0_0 : Int) (A0_1 : Option Addr) (c0_1 : Nat) (l0_1 : List (S33)) (A1 : Option Addr) (c1 : Nat) (l1 : List (S31)) (a2 : Int) (r : List Int) (w : World) (hr0_1 : Kd.C k33 w A0_1 l0_1.length l0_1) (hc0_1 : l0_1.length ≤ c0_1) (hr1 : Kd.C k31 w A1 l1.length l1) (hc1 : l1.length ≤ c1) (h : spec_TurnAll.f k a0_0 l0_1 l1 a2 = some r) :
    Calls Try.prog 32 #[.agg #[.int .i64 a0_0, .slice A0_1 l0_1.length c0_1], .slice A1 l1.length c1, .int .i64 a2] w fun e w' => ∃ v0_ : Value, e = .returned (v0_) ∧ Kd.R (Kd.int .i64) 3 w' w.heap.size (fun _ => True) v0_ r ∧ Below w.heap.size w w' := by
  have hu25 := Try.underlying25
  have HR0_1 := Aside0.mk hr0_1
  have HC0_1 := Aside0.mk hc0_1
  clear hr0_1 hc0_1
  have HR1 := Aside0.mk hr1
  have HC1 := Aside0.mk hc1
  clear hr1 hc1
  have HB := Aside0.mk (Below.refl w.heap.size w)
  have H : ((spec_l1Ok.f k a0_0 l0_1).bind fun t665 => (if t665 = true then ((spec_l4Ok.f k a0_0 l0_1 l1).bind fun t666 => (if t666 = true then ((spec_l1In.f a2 0 (wrap64 (a0_0 - 1))).bind fun t667 => (if t667 = true then ((spec_l4All.f k a0_0 l0_1 l1 a2).bind fun t668 => (some t668)) else (some ([] : List Int)))) else (some ([] : List Int)))) else (some ([] : List Int)))) = some r := h
  clear h
  replace H := Option.bind_eq_some_iff.mp H
  obtain ⟨t665, A40, H⟩ := H
  try dsimp only at H
  have A4 := Aside0.mk A40
  clear A40
  by_cases c5 : t665 = true
  rotate_left
  ·replace c5 := Bool.eq_false_iff.mpr c5
   subst c5
   have H1 : (some ([] : List Int)) = some r := by rw [if_neg (show ¬ (false = true) by decide)] at H; exact H
   clear H
   have H := H1
   clear H1
   obtain rfl := Option.some.inj H
   go_enter Try.func32, Try.ntmps32
   go_wp2_with (first | ((with_reducible refine gate_dst (N := 3) rfl ?_); refine bx_ 3 #[.int .i64 a0_0, .slice A0_1 l0_1.length c0_1] 25 ?_; intro gb664 hg w29 hbox hb; have BK664 := Aside0.mk (hbox); have GW664 := Aside0.mk (zs_ hg (ne_ HB.out)); have GE664 := Aside0.mk (zs_ hg (ne_ HB.out)); replace HB := kB_ HB hb; clear hb hbox hg; obtain ⟨hcz30_0, hcz30_1, hfz30_0, hfz30_1⟩ := cz2_ BK664.out) | ((with_reducible refine gate_callee (f := 50) rfl ?_); refine gl_ (some 8) Try.func50 #[.agg #[.int .i64 a0_0, .slice A0_1 l0_1.length c0_1]] ?_; (with_reducible refine (spec_l1Ok.calls k a0_0 _ _ l0_1 false _ ?side1 ?side2 A4.out).mono ?_); (case side1 => exact nc_ (Kd.C_below HR0_1.out HB.out)); (case side2 => exact HC0_1.out); rintro e w31 ⟨rfl, hb⟩; refine ⟨_, rfl, ?_⟩; replace BK664 := kb_ BK664 hb; replace HB := kB_ HB hb; (try clear hb); (try clear hb2); (try clear hk); (try clear hi)))
   go_ret
   exact ⟨_, nw_, by first | exact Kd.R_nil _ _ _ _ _ | exact Kd.N_nil _ _ _ _ _ | exact Kd.V_nil _ _ _ _ _ | exact Kd.Q_nil _ _ _ _ _ | exact Kd.S_nil _ _ _ _ _, ne_ HB.out⟩

  subst c5
  rw [if_pos rfl] at H
  replace H := Option.bind_eq_some_iff.mp H
  obtain ⟨t666, A60, H⟩ := H
  try dsimp only at H
  have A6 := Aside0.mk A60
  clear A60
  by_cases c7 : t666 = true
  rotate_left
  ·replace c7 := Bool.eq_false_iff.mpr c7
   subst c7
   have H1 : (some ([] : List Int)) = some r := by rw [if_neg (show ¬ (false = true) by decide)] at H; exact H
   clear H
   have H := H1
   clear H1
   obtain rfl := Option.some.inj H
   go_enter Try.func32, Try.ntmps32
   go_wp2_with (first | ((with_reducible refine gate_dst (N := 3) rfl ?_); refine bx_ 3 #[.int .i64 a0_0, .slice A0_1 l0_1.length c0_1] 25 ?_; intro gb664 hg w24 hbox hb; have BK664 := Aside0.mk (hbox); have GW664 := Aside0.mk (zs_ hg (ne_ HB.out)); have GE664 := Aside0.mk (zs_ hg (ne_ HB.out)); replace HB := kB_ HB hb; clear hb hbox hg; obtain ⟨hcz25_0, hcz25_1, hfz25_0, hfz25_1⟩ := cz2_ BK664.out) | ((with_reducible refine gate_callee (f := 50) rfl ?_); refine gl_ (some 8) Try.func50 #[.agg #[.int .i64 a0_0, .slice A0_1 l0_1.length c0_1]] ?_; (with_reducible refine (spec_l1Ok.calls k a0_0 _ _ l0_1 true _ ?side1 ?side2 A4.out).mono ?_); (case side1 => exact nc_ (Kd.C_below HR0_1.out HB.out)); (case side2 => exact HC0_1.out); rintro e w26 ⟨rfl, hb⟩; refine ⟨_, rfl, ?_⟩; replace BK664 := kb_ BK664 hb; replace HB := kB_ HB hb; (try clear hb); (try clear hb2); (try clear hk); (try clear hi); obtain ⟨hcz27_0, hcz27_1, hfz27_0, hfz27_1⟩ := cz2_ BK664.out) | (go_at_call 51; (with_reducible refine (spec_l4Ok.calls k a0_0 _ _ l0_1 _ _ l1 false _ ?side1 ?side2 ?side3 ?side4 A6.out).mono ?_); (case side1 => exact nc_ (Kd.C_below HR0_1.out HB.out)); (case side2 => exact HC0_1.out); (case side3 => exact nc_ (Kd.C_below HR1.out HB.out)); (case side4 => exact HC1.out); rintro e w28 ⟨rfl, hb⟩; replace BK664 := kb_ BK664 hb; replace HB := kB_ HB hb; (try clear hb); (try clear hb2); (try clear hk); (try clear hi)))
   go_ret
   exact ⟨_, nw_, by first | exact Kd.R_nil _ _ _ _ _ | exact Kd.N_nil _ _ _ _ _ | exact Kd.V_nil _ _ _ _ _ | exact Kd.Q_nil _ _ _ _ _ | exact Kd.S_nil _ _ _ _ _, ne_ HB.out⟩
  subst c7
  rw [if_pos rfl] at H
  replace H := Option.bind_eq_some_iff.mp H
  obtain ⟨t667, A80, H⟩ := H
  try dsimp only at H
  have A8 := Aside0.mk A80
  clear A80
  by_cases c9 : t667 = true
  rotate_left
  ·replace c9 := Bool.eq_false_iff.mpr c9
   subst c9
   have H1 : (some ([] : List Int)) = some r := by rw [if_neg (show ¬ (false = true) by decide)] at H; exact H
   clear H
   have H := H1
   clear H1
   obtain rfl := Option.some.inj H
   go_enter Try.func32, Try.ntmps32
   go_wp2_with (first | ((with_reducible refine gate_dst (N := 3) rfl ?_); refine bx_ 3 #[.int .i64 a0_0, .slice A0_1 l0_1.length c0_1] 25 ?_; intro gb664 hg w18 hbox hb; have BK664 := Aside0.mk (hbox); have GW664 := Aside0.mk (zs_ hg (ne_ HB.out)); have GE664 := Aside0.mk (zs_ hg (ne_ HB.out)); replace HB := kB_ HB hb; clear hb hbox hg; obtain ⟨hcz19_0, hcz19_1, hfz19_0, hfz19_1⟩ := cz2_ BK664.out) | ((with_reducible refine gate_callee (f := 50) rfl ?_); refine gl_ (some 8) Try.func50 #[.agg #[.int .i64 a0_0, .slice A0_1 l0_1.length c0_1]] ?_; (with_reducible refine (spec_l1Ok.calls k a0_0 _ _ l0_1 true _ ?side1 ?side2 A4.out).mono ?_); (case side1 => exact nc_ (Kd.C_below HR0_1.out HB.out)); (case side2 => exact HC0_1.out); rintro e w20 ⟨rfl, hb⟩; refine ⟨_, rfl, ?_⟩; replace BK664 := kb_ BK664 hb; replace HB := kB_ HB hb; (try clear hb); (try clear hb2); (try clear hk); (try clear hi); obtain ⟨hcz21_0, hcz21_1, hfz21_0, hfz21_1⟩ := cz2_ BK664.out) | (go_at_call 51; (with_reducible refine (spec_l4Ok.calls k a0_0 _ _ l0_1 _ _ l1 true _ ?side1 ?side2 ?side3 ?side4 A6.out).mono ?_); (case side1 => exact nc_ (Kd.C_below HR0_1.out HB.out)); (case side2 => exact HC0_1.out); (case side3 => exact nc_ (Kd.C_below HR1.out HB.out)); (case side4 => exact HC1.out); rintro e w22 ⟨rfl, hb⟩; replace BK664 := kb_ BK664 hb; replace HB := kB_ HB hb; (try clear hb); (try clear hb2); (try clear hk); (try clear hi); obtain ⟨hcz23_0, hcz23_1, hfz23_0, hfz23_1⟩ := cz2_ BK664.out) | (go_at_call 66; (with_reducible refine (spec_l1In.calls a2 0 (wrap64 (a0_0 - 1)) false _ A8.out).mono ?_); rintro e w' ⟨rfl, ⟨nd, rfl⟩⟩))
   go_ret
   exact ⟨_, nw_, by first | exact Kd.R_nil _ _ _ _ _ | exact Kd.N_nil _ _ _ _ _ | exact Kd.V_nil _ _ _ _ _ | exact Kd.Q_nil _ _ _ _ _ | exact Kd.S_nil _ _ _ _ _, ne_ HB.out⟩
  subst c9
  have H1 : ((spec_l4All.f k a0_0 l0_1 l1 a2).bind fun t668 => (some t668)) = some r := by rw [if_pos rfl] at H; exact H
  clear H
  have H := H1
  clear H1
  replace H := Option.bind_eq_some_iff.mp H
  obtain ⟨t668, A100, H⟩ := H
  replace H : (some t668) = some r := H
  have A10 := Aside0.mk A100
  clear A100
  obtain rfl := Option.some.inj H
  go_enter Try.func32, Try.ntmps32
  go_wp2_with (first | ((with_reducible refine gate_dst (N := 3) rfl ?_); refine bx_ 3 #[.int .i64 a0_0, .slice A0_1 l0_1.length c0_1] 25 ?_; intro gb664 hg w11 hbox hb; have BK664 := Aside0.mk (hbox); have GW664 := Aside0.mk (zs_ hg (ne_ HB.out)); have GE664 := Aside0.mk (zs_ hg (ne_ HB.out)); replace HB := kB_ HB hb; clear hb hbox hg; obtain ⟨hcz12_0, hcz12_1, hfz12_0, hfz12_1⟩ := cz2_ BK664.out) | ((with_reducible refine gate_callee (f := 50) rfl ?_); refine gl_ (some 8) Try.func50 #[.agg #[.int .i64 a0_0, .slice A0_1 l0_1.length c0_1]] ?_; (with_reducible refine (spec_l1Ok.calls k a0_0 _ _ l0_1 true _ ?side1 ?side2 A4.out).mono ?_); (case side1 => exact nc_ (Kd.C_below HR0_1.out HB.out)); (case side2 => exact HC0_1.out); rintro e w13 ⟨rfl, hb⟩; refine ⟨_, rfl, ?_⟩; replace BK664 := kb_ BK664 hb; replace HB := kB_ HB hb; (try clear hb); (try clear hb2); (try clear hk); (try clear hi); obtain ⟨hcz14_0, hcz14_1, hfz14_0, hfz14_1⟩ := cz2_ BK664.out) | (go_at_call 51; (with_reducible refine (spec_l4Ok.calls k a0_0 _ _ l0_1 _ _ l1 true _ ?side1 ?side2 ?side3 ?side4 A6.out).mono ?_); (case side1 => exact nc_ (Kd.C_below HR0_1.out HB.out)); (case side2 => exact HC0_1.out); (case side3 => exact nc_ (Kd.C_below HR1.out HB.out)); (case side4 => exact HC1.out); rintro e w15 ⟨rfl, hb⟩; replace BK664 := kb_ BK664 hb; replace HB := kB_ HB hb; (try clear hb); (try clear hb2); (try clear hk); (try clear hi); obtain ⟨hcz16_0, hcz16_1, hfz16_0, hfz16_1⟩ := cz2_ BK664.out) | (go_at_call 66; (with_reducible refine (spec_l1In.calls a2 0 (wrap64 (a0_0 - 1)) true _ A8.out).mono ?_); rintro e w' ⟨rfl, ⟨nd, rfl⟩⟩) | ((with_reducible refine gate_callee (f := 67) rfl ?_); refine gl_ (some 27) Try.func67 #[.agg #[.int .i64 a0_0, .slice A0_1 l0_1.length c0_1], .slice A1 l1.length c1, .int .i64 a2] ?_; (with_reducible refine (spec_l4All.calls k a0_0 _ _ l0_1 _ _ l1 a2 t668 _ ?side1 ?side2 ?side3 ?side4 A10.out).mono ?_); (case side1 => exact nc_ (Kd.C_below HR0_1.out (ne_ HB.out))); (case side2 => exact HC0_1.out); (case side3 => exact nc_ (Kd.C_below HR1.out (ne_ HB.out))); (case side4 => exact HC1.out); rintro e w17 ⟨v669, rfl, ho0, hb⟩; refine ⟨_, rfl, ?_⟩; have HO670 := Aside0.mk (Kd.R_lower ho0 (below_size (ne_ HB.out))); replace BK664 := kb_ BK664 hb; replace HB := kB_ HB hb; (try clear hb); (try clear hb2); (try clear hk); (try clear hi); (try clear ho0)))
  go_ret
  exact ⟨_, nw_, nr_ HO670.out, ne_ HB.out⟩
end Go.Proofs.Ytcfmejfmjjgoaaa.Print
