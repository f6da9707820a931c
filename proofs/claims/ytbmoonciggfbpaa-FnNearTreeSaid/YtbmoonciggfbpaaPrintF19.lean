-- Made by this session's own program (wip/patch_print.py, over the kit's print). Lean checks it.
import Derived.Test.YtbmoonciggfbpaaPrint0
import Derived.Test.YtbmoonciggfbpaaPrintB
import Derived.Test.YtbmoonciggfbpaaPrintF40
import Derived.Test.YtbmoonciggfbpaaPrintF42
import Derived.Test.YtbmoonciggfbpaaPrintF45
namespace Go.Proofs.Ytbmoonciggfbpaa.Print
open Go.RowKit Go.Proofs.YtbmoonciggfbpaaW.PrintWords Go.Proofs.YtbmoonciggfbpaaW.PrintLast Go.Proofs.YtbmoonciggfbpaaW.PrintMore Go.Proofs.YtbmoonciggfbpaaX
attribute [local go_sem] max2_int min2_int max_two min_two max_three min_three max_four min_four   -- for this text's walks alone
set_option linter.unusedVariables false
set_option linter.unusedSimpArgs false

/-! ### spec_NearTo: function 19 -/
def spec_NearTo.j0 : Nat → Int → Bool → Int → List (S33) → Option (List Int)
  | 0, _, _, _, _ => none
  | k + 1, x1, x15, x380000, x380001 => if x15 = true then (some ([] : List Int)) else ((spec_l1Back.f k x380000 x380001).bind fun bt382 => ((spec_l3All.f k bt382.1 bt382.2 x1).bind fun t386 => (some t386)))
def spec_NearTo.f (k : Nat) (a0_0 : Int) (l0_1 : List (S33)) (a1 : Int) : Option (List Int) := (spec_l1Ok.f k a0_0 l0_1).bind fun t380 => (if t380 = true then ((spec_l1In.f a1 0 (wrap64 (a0_0 - 1))).bind fun t381 => (spec_NearTo.j0 k a1 (!t381) a0_0 l0_1)) else (spec_NearTo.j0 k a1 true a0_0 l0_1))
theorem spec_NearTo.mono_l : ∀ k, (∀ y0 y1 y2 y3, LeO (spec_NearTo.j0 k y0 y1 y2 y3) (spec_NearTo.j0 (k + 1) y0 y1 y2 y3))
  | 0 => fun _ _ _ _ r h => by simp [spec_NearTo.j0] at h
  | k + 1 => by
    have ih0 := spec_NearTo.mono_l k
    · intro y0 y1 y2 y3
      unfold spec_NearTo.j0
      repeat' first | (with_reducible first | exact ih0 _ _ _ _ | exact spec_l1Back.mono _ _ _ | exact spec_l1Ok.mono _ _ _ | exact spec_l3All.mono _ _ _ _ | exact LeO.refl _ | exact LeO.none _ | refine LeO.ite ?_ ?_ | refine LeO.bind ?_ (fun _ => ?_)) | exact ih0 _ _ _ _ | exact spec_l1Back.mono _ _ _ | exact spec_l1Ok.mono _ _ _ | exact spec_l3All.mono _ _ _ _ | exact LeO.none _ | refine LeO.ite ?_ ?_ | refine LeO.bind ?_ (fun _ => ?_)
theorem spec_NearTo.mono : ∀ a0 a1 a2 k, LeO (spec_NearTo.f k a0 a1 a2) (spec_NearTo.f (k + 1) a0 a1 a2) := by
  intro a0 a1 a2 k
  have ih0 := spec_NearTo.mono_l k
  unfold spec_NearTo.f
  repeat' first | (with_reducible first | exact ih0 _ _ _ _ | exact spec_l1Back.mono _ _ _ | exact spec_l1Ok.mono _ _ _ | exact spec_l3All.mono _ _ _ _ | exact LeO.refl _ | exact LeO.none _ | refine LeO.ite ?_ ?_ | refine LeO.bind ?_ (fun _ => ?_)) | exact ih0 _ _ _ _ | exact spec_l1Back.mono _ _ _ | exact spec_l1Ok.mono _ _ _ | exact spec_l3All.mono _ _ _ _ | exact LeO.none _ | refine LeO.ite ?_ ?_ | refine LeO.bind ?_ (fun _ => ?_)
set_option maxHeartbeats 200000000 in
set_option maxRecDepth 100000 in
theorem spec_NearTo.calls (k : Nat) (a0_0 : Int) (A0_1 : Option Addr) (c0_1 : Nat) (l0_1 : List (S33)) (a1 : Int) (r : List Int) (w : World) (hr0_1 : Kd.C k33 w A0_1 l0_1.length l0_1) (hc0_1 : l0_1.length ≤ c0_1) (h : spec_NearTo.f k a0_0 l0_1 a1 = some r) :
    Calls Try.prog 19 #[.agg #[.int .i64 a0_0, .slice A0_1 l0_1.length c0_1], .int .i64 a1] w fun e w' => ∃ v0_ : Value, e = .returned (v0_) ∧ Kd.R (Kd.int .i64) 3 w' w.heap.size (fun _ => True) v0_ r ∧ Below w.heap.size w w' := by
  have hu25 := Try.underlying25
  have HR0_1 := Aside0.mk hr0_1
  have HC0_1 := Aside0.mk hc0_1
  clear hr0_1 hc0_1
  have HB := Aside0.mk (Below.refl w.heap.size w)
  have H : ((spec_l1Ok.f k a0_0 l0_1).bind fun t380 => (if t380 = true then ((spec_l1In.f a1 0 (wrap64 (a0_0 - 1))).bind fun t381 => (spec_NearTo.j0 k a1 (!t381) a0_0 l0_1)) else (spec_NearTo.j0 k a1 true a0_0 l0_1))) = some r := h
  clear h
  have HC3 := Aside0.mk H
  clear H
  go_enter Try.func19, Try.ntmps19
  go_upto_region 1 with (first | ((with_reducible refine gate_dst (N := 2) rfl ?_); refine bx_ 2 #[.int .i64 a0_0, .slice A0_1 l0_1.length c0_1] 25 ?_; intro gb379 hg w4 hbox hb; have BK379 := Aside0.mk (hbox); have GW379 := Aside0.mk (zs_ hg (ne_ HB.out)); have GE379 := Aside0.mk (zs_ hg (ne_ HB.out)); replace HB := kB_ HB hb; clear hb hbox hg))
  (try simp only [Act.put, List.setIfInBounds_toArray, List.set_cons_zero, List.set_cons_succ])
  go_cut [15] (fun v15 wc => ∃ (kq : Nat) (x15_2 : Bool), v15 = .bool x15_2 ∧ Aside0 (spec_NearTo.j0 kq a1 x15_2 a0_0 l0_1 = some r) ∧ Aside0 (kq ≤ k) ∧ Aside0 (wc.heap[gb379]? = some (.cells #[.int .i64 a0_0, (.slice A0_1 l0_1.length c0_1)] 25 (0, 0))) ∧ Aside0 (Below w.heap.size w wc))
  case first =>
   have H := HC3.out
   clear HC3
   replace H := Option.bind_eq_some_iff.mp H
   obtain ⟨t380, A50, H⟩ := H
   replace H : (if t380 = true then ((spec_l1In.f a1 0 (wrap64 (a0_0 - 1))).bind fun t381 => (spec_NearTo.j0 k a1 (!t381) a0_0 l0_1)) else (spec_NearTo.j0 k a1 true a0_0 l0_1)) = some r := H
   have A5 := Aside0.mk A50
   clear A50
   by_cases c6 : t380 = true
   rotate_left
   ·replace c6 := Bool.eq_false_iff.mpr c6
    subst c6
    have H1 : (spec_NearTo.j0 k a1 true a0_0 l0_1) = some r := by rw [if_neg (show ¬ (false = true) by decide)] at H; exact H
    clear H
    have H := H1
    clear H1
    have H' := Aside0.mk H
    clear H
    obtain ⟨hcz11_0, hcz11_1, hfz11_0, hfz11_1⟩ := cz2_ BK379.out
    go_wp2_with (first | ((with_reducible refine gate_callee (f := 40) rfl ?_); refine gl_ (some 6) Try.func40 #[.agg #[.int .i64 a0_0, .slice A0_1 l0_1.length c0_1]] ?_; (with_reducible refine (spec_l1Ok.calls k a0_0 _ _ l0_1 false _ ?side1 ?side2 A5.out).mono ?_); (case side1 => exact nc_ (Kd.C_below HR0_1.out HB.out)); (case side2 => exact HC0_1.out); rintro e w12 ⟨rfl, hb⟩; refine ⟨_, rfl, ?_⟩; replace BK379 := kb_ BK379 hb; replace HB := kB_ HB hb; (try clear hb); (try clear hb2); (try clear hk); (try clear hi)))
    go_meet
    case rel => exact ⟨_, (true), ns_, H', ⟨by first | omega | exact Nat.le_refl _⟩, ⟨nb_ BK379.out⟩, ⟨ne_ HB.out⟩⟩
   subst c6
   have H1 : ((spec_l1In.f a1 0 (wrap64 (a0_0 - 1))).bind fun t381 => (spec_NearTo.j0 k a1 (!t381) a0_0 l0_1)) = some r := by rw [if_pos rfl] at H; exact H
   clear H
   have H := H1
   clear H1
   replace H := Option.bind_eq_some_iff.mp H
   obtain ⟨t381, A70, H⟩ := H
   replace H : (spec_NearTo.j0 k a1 (!t381) a0_0 l0_1) = some r := H
   have A7 := Aside0.mk A70
   clear A70
   have H' := Aside0.mk H
   clear H
   obtain ⟨hcz8_0, hcz8_1, hfz8_0, hfz8_1⟩ := cz2_ BK379.out
   go_wp2_with (first | ((with_reducible refine gate_callee (f := 40) rfl ?_); refine gl_ (some 6) Try.func40 #[.agg #[.int .i64 a0_0, .slice A0_1 l0_1.length c0_1]] ?_; (with_reducible refine (spec_l1Ok.calls k a0_0 _ _ l0_1 true _ ?side1 ?side2 A5.out).mono ?_); (case side1 => exact nc_ (Kd.C_below HR0_1.out HB.out)); (case side2 => exact HC0_1.out); rintro e w9 ⟨rfl, hb⟩; refine ⟨_, rfl, ?_⟩; replace BK379 := kb_ BK379 hb; replace HB := kB_ HB hb; (try clear hb); (try clear hb2); (try clear hk); (try clear hi); obtain ⟨hcz10_0, hcz10_1, hfz10_0, hfz10_1⟩ := cz2_ BK379.out) | (go_at_call 41; (with_reducible refine (spec_l1In.calls a1 0 (wrap64 (a0_0 - 1)) t381 _ A7.out).mono ?_); rintro e w' ⟨rfl, ⟨nd, rfl⟩⟩))
   go_meet
   case rel => exact ⟨_, (!t381), ns_, H', ⟨by first | omega | exact Nat.le_refl _⟩, ⟨nb_ BK379.out⟩, ⟨ne_ HB.out⟩⟩
  case rest =>
   clear HC3
   try clear c1
   try clear p2
   try clear c4
   try clear c6
   try clear p6
   try clear hcz10_0
   try clear hcz10_1
   try clear hcz11_0
   try clear hcz11_1
   try clear hcz8_0
   try clear hcz8_1
   try clear hfz10_0
   try clear hfz10_1
   try clear hfz11_0
   try clear hfz11_1
   try clear hfz8_0
   try clear hfz8_1
   obtain ⟨kq, x15_2, rfl, HA, HJ2, BK379, HB⟩ := hcut
   cases kq with
   | zero => exact absurd HA.out (by simp [spec_NearTo.j0])
   | succ kj2 =>
    have H := HA.out
    clear HA
    simp only [spec_NearTo.j0] at H
    by_cases c13 : x15_2 = true
    ·subst c13
     have H1 : (some ([] : List Int)) = some r := by rw [if_pos rfl] at H; exact H
     clear H
     have H := H1
     clear H1
     obtain rfl := Option.some.inj H
     go_wp2
     go_ret
     exact ⟨_, nw_, by first | exact Kd.R_nil _ _ _ _ _ | exact Kd.N_nil _ _ _ _ _ | exact Kd.V_nil _ _ _ _ _ | exact Kd.Q_nil _ _ _ _ _ | exact Kd.S_nil _ _ _ _ _, ne_ HB.out⟩
    replace c13 := Bool.eq_false_iff.mpr c13
    subst c13
    have H1 : ((spec_l1Back.f kj2 a0_0 l0_1).bind fun bt382 => ((spec_l3All.f kj2 bt382.1 bt382.2 a1).bind fun t386 => (some t386))) = some r := by rw [if_neg (show ¬ (false = true) by decide)] at H; exact H
    clear H
    have H := H1
    clear H1
    replace H := Option.bind_eq_some_iff.mp H
    obtain ⟨⟨t382, t383⟩, A140, H⟩ := H
    replace H : ((spec_l3All.f kj2 t382 t383 a1).bind fun t386 => (some t386)) = some r := H
    have A14 := Aside0.mk A140
    clear A140
    replace H := Option.bind_eq_some_iff.mp H
    obtain ⟨t386, A150, H⟩ := H
    replace H : (some t386) = some r := H
    have A15 := Aside0.mk A150
    clear A150
    obtain rfl := Option.some.inj H
    obtain ⟨hcz16_0, hcz16_1, hfz16_0, hfz16_1⟩ := cz2_ BK379.out
    go_wp2_with (first | ((with_reducible refine gate_callee (f := 45) rfl ?_); refine gl_ (some 17) Try.func45 #[.agg #[.int .i64 a0_0, .slice A0_1 l0_1.length c0_1]] ?_; (with_reducible refine (spec_l1Back.calls kj2 a0_0 _ _ l0_1 t382 t383 _ ?side1 ?side2 A14.out).mono ?_); (case side1 => exact nc_ (Kd.C_below HR0_1.out HB.out)); (case side2 => exact HC0_1.out); rintro e w17 ⟨v384, rfl, ho0, hb⟩; refine ⟨_, rfl, ?_⟩; have HO385 := Aside0.mk (Kd.R_lower ho0 (below_size (ne_ HB.out))); replace BK379 := kb_ BK379 hb; replace HB := kB_ HB hb; (try clear hb); (try clear hb2); (try clear hk); (try clear hi); (try clear ho0); obtain ⟨Ao18, co18, eo18⟩ := Kd.R_slice HO385.out; subst eo18) | ((with_reducible refine gate_callee (f := 42) rfl ?_); refine gl_ (some 19) Try.func42 #[.agg #[.int .i64 t382, .slice Ao18 t383.length co18], .int .i64 a1] ?_; (with_reducible refine (spec_l3All.calls kj2 t382 _ _ t383 a1 t386 _ ?side1 ?side2 A15.out).mono ?_); (case side1 => exact nc_ (Kd.R_reads' HO385.out).2.2); (case side2 => exact (Kd.R_reads' HO385.out).2.1); rintro e w19 ⟨v387, rfl, ho0, hb⟩; refine ⟨_, rfl, ?_⟩; have HO388 := Aside0.mk (Kd.R_lower ho0 (below_size (ne_ HB.out))); replace HO385 := kR_ HO385 hb; replace BK379 := kb_ BK379 hb; replace HB := kB_ HB hb; (try clear hb); (try clear hb2); (try clear hk); (try clear hi); (try clear ho0)))
    go_ret
    exact ⟨_, nw_, nr_ HO388.out, ne_ HB.out⟩

end Go.Proofs.Ytbmoonciggfbpaa.Print
