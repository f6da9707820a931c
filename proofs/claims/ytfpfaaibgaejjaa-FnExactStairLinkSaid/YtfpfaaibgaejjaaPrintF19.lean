-- Made by this session's own program (wip/patch_print.py, over the kit's print). Lean checks it.
import Derived.Test.YtfpfaaibgaejjaaPrint0
import Derived.Test.YtfpfaaibgaejjaaPrintF37
import Derived.Test.YtfpfaaibgaejjaaPrintF40
namespace Go.Proofs.Ytfpfaaibgaejjaa.Print
open Go.RowKit Go.Proofs.YtfpfaaibgaejjaaW.PrintWords Go.Proofs.YtfpfaaibgaejjaaW.PrintLast Go.Proofs.YtfpfaaibgaejjaaW.PrintMore Go.Proofs.YtfpfaaibgaejjaaX
attribute [local go_sem] max2_int min2_int max_two min_two max_three min_three max_four min_four   -- for this text's walks alone
set_option linter.unusedVariables false
set_option linter.unusedSimpArgs false

/-! ### impl_StairOf: function 19 -/
def impl_StairOf.f (k : Nat) (l0 : List (S36)) : Option ((List (S36)) × Bool) := (impl_Step_37.f l0 0).bind fun t217 => (if t217 = true then (some (([] : List (S36)), false)) else ((impl_profile.f k l0).bind fun t218 => (if (t218.length : Int) > 12 then (some (([] : List (S36)), false)) else (some (t218, true)))))
theorem impl_StairOf.mono : ∀ a0 k, LeO (impl_StairOf.f k a0) (impl_StairOf.f (k + 1) a0) := by
  intro a0 k
  unfold impl_StairOf.f
  repeat' first | (with_reducible first | exact impl_profile.mono _ _ | exact LeO.refl _ | exact LeO.none _ | refine LeO.ite ?_ ?_ | refine LeO.bind ?_ (fun _ => ?_)) | exact impl_profile.mono _ _ | exact LeO.none _ | refine LeO.ite ?_ ?_ | refine LeO.bind ?_ (fun _ => ?_)
set_option maxHeartbeats 200000000 in
set_option maxRecDepth 100000 in
theorem impl_StairOf.calls (k : Nat) (A0 : Option Addr) (c0 : Nat) (l0 : List (S36)) (r1 : List (S36)) (r2 : Bool) (w : World) (hr0 : Kd.C k36 w A0 l0.length l0) (hc0 : l0.length ≤ c0) (h : impl_StairOf.f k l0 = some (r1, r2)) :
    Calls Try.prog 19 #[.slice A0 l0.length c0] w fun e w' => ∃ v0_ : Value, e = .returned (.tuple #[v0_, .bool r2]) ∧ Kd.R k36 36 w' w.heap.size (fun _ => True) v0_ r1 ∧ Below w.heap.size w w' := by
  have HR0 := Aside0.mk hr0
  have HC0 := Aside0.mk hc0
  clear hr0 hc0
  have HB := Aside0.mk (Below.refl w.heap.size w)
  have H : ((impl_Step_37.f l0 0).bind fun t217 => (if t217 = true then (some (([] : List (S36)), false)) else ((impl_profile.f k l0).bind fun t218 => (if (t218.length : Int) > 12 then (some (([] : List (S36)), false)) else (some (t218, true)))))) = some (r1, r2) := h
  clear h
  replace H := Option.bind_eq_some_iff.mp H
  obtain ⟨t217, A20, H⟩ := H
  try dsimp only at H
  have A2 := Aside0.mk A20
  clear A20
  by_cases c3 : t217 = true
  ·subst c3
   have H1 : (some (([] : List (S36)), false)) = some (r1, r2) := by rw [if_pos rfl] at H; exact H
   clear H
   have H := H1
   clear H1
   simp only [Option.some.injEq, Prod.mk.injEq] at H
   obtain ⟨rfl, rfl⟩ := H
   go_enter Try.func19, Try.ntmps19
   go_wp2_with (first | ((with_reducible refine gate_callee (f := 37) rfl ?_); refine gl_ (some 6) Try.func37 #[.slice A0 l0.length c0, .func (.func 38) #[] #[]] ?_; (with_reducible refine (impl_Step_37.calls _ _ l0 0 true _ ?side1 ?side2 A2.out).mono ?_); (case side1 => repeat (first | exact HR0.out | (with_reducible refine Kd.C_alloc ?_ _) | (with_reducible refine Kd.C_drewN ?_ _) | (with_reducible refine Kd.C_drew ?_))); (case side2 => exact HC0.out); rintro e w4 ⟨rfl, hb⟩; refine ⟨_, rfl, ?_⟩; replace HB := kB_ HB hb; (try clear hb); (try clear hb2); (try clear hk); (try clear hi)))
   go_ret2
   exact ⟨_, nw_, by first | exact Kd.R_nil _ _ _ _ _ | exact Kd.N_nil _ _ _ _ _ | exact Kd.V_nil _ _ _ _ _ | exact Kd.Q_nil _ _ _ _ _ | exact Kd.S_nil _ _ _ _ _, ne_ HB.out⟩
  replace c3 := Bool.eq_false_iff.mpr c3
  subst c3
  have H1 : ((impl_profile.f k l0).bind fun t218 => (if (t218.length : Int) > 12 then (some (([] : List (S36)), false)) else (some (t218, true)))) = some (r1, r2) := by rw [if_neg (show ¬ (false = true) by decide)] at H; exact H
  clear H
  have H := H1
  clear H1
  replace H := Option.bind_eq_some_iff.mp H
  obtain ⟨t218, A50, H⟩ := H
  replace H : (if (t218.length : Int) > 12 then (some (([] : List (S36)), false)) else (some (t218, true))) = some (r1, r2) := H
  have A5 := Aside0.mk A50
  clear A50
  by_cases c6 : (t218.length : Int) > 12
  rotate_left
  ·rw [if_neg c6] at H
   have c6b0 : decide (12 < (t218.length : Int)) = false := decide_eq_false c6
   have c6b1 : decide (12 < t218.length) = false := decide_eq_false (by omega)
   clear c6
   simp only [Option.some.injEq, Prod.mk.injEq] at H
   obtain ⟨rfl, rfl⟩ := H
   go_enter Try.func19, Try.ntmps19
   go_wp2_with (first | ((with_reducible refine gate_callee (f := 37) rfl ?_); refine gl_ (some 6) Try.func37 #[.slice A0 l0.length c0, .func (.func 38) #[] #[]] ?_; (with_reducible refine (impl_Step_37.calls _ _ l0 0 false _ ?side1 ?side2 A2.out).mono ?_); (case side1 => repeat (first | exact HR0.out | (with_reducible refine Kd.C_alloc ?_ _) | (with_reducible refine Kd.C_drewN ?_ _) | (with_reducible refine Kd.C_drew ?_))); (case side2 => exact HC0.out); rintro e w10 ⟨rfl, hb⟩; refine ⟨_, rfl, ?_⟩; replace HB := kB_ HB hb; (try clear hb); (try clear hb2); (try clear hk); (try clear hi)) | ((with_reducible refine gate_callee (f := 40) rfl ?_); refine gl_ (some 8) Try.func40 #[.slice A0 l0.length c0] ?_; (with_reducible refine (impl_profile.calls k _ _ l0 t218 _ ?side1 ?side2 A5.out).mono ?_); (case side1 => exact nc_ (Kd.C_below HR0.out HB.out)); (case side2 => exact HC0.out); rintro e w11 ⟨v219, rfl, ho0, hb⟩; refine ⟨_, rfl, ?_⟩; have HO220 := Aside0.mk (Kd.R_lower ho0 (below_size (ne_ HB.out))); replace HB := kB_ HB hb; (try clear hb); (try clear hb2); (try clear hk); (try clear hi); (try clear ho0); obtain ⟨Ao12, co12, eo12⟩ := Kd.R_slice HO220.out; subst eo12))
   go_ret2
   exact ⟨_, nw_, nr_ HO220.out, ne_ HB.out⟩

  rw [if_pos c6] at H
  have c6b0 : decide (12 < (t218.length : Int)) = true := decide_eq_true c6
  have c6b1 : decide (12 < t218.length) = true := decide_eq_true (by omega)
  clear c6
  simp only [Option.some.injEq, Prod.mk.injEq] at H
  obtain ⟨rfl, rfl⟩ := H
  go_enter Try.func19, Try.ntmps19
  go_wp2_with (first | ((with_reducible refine gate_callee (f := 37) rfl ?_); refine gl_ (some 6) Try.func37 #[.slice A0 l0.length c0, .func (.func 38) #[] #[]] ?_; (with_reducible refine (impl_Step_37.calls _ _ l0 0 false _ ?side1 ?side2 A2.out).mono ?_); (case side1 => repeat (first | exact HR0.out | (with_reducible refine Kd.C_alloc ?_ _) | (with_reducible refine Kd.C_drewN ?_ _) | (with_reducible refine Kd.C_drew ?_))); (case side2 => exact HC0.out); rintro e w7 ⟨rfl, hb⟩; refine ⟨_, rfl, ?_⟩; replace HB := kB_ HB hb; (try clear hb); (try clear hb2); (try clear hk); (try clear hi)) | ((with_reducible refine gate_callee (f := 40) rfl ?_); refine gl_ (some 8) Try.func40 #[.slice A0 l0.length c0] ?_; (with_reducible refine (impl_profile.calls k _ _ l0 t218 _ ?side1 ?side2 A5.out).mono ?_); (case side1 => exact nc_ (Kd.C_below HR0.out HB.out)); (case side2 => exact HC0.out); rintro e w8 ⟨v219, rfl, ho0, hb⟩; refine ⟨_, rfl, ?_⟩; have HO220 := Aside0.mk (Kd.R_lower ho0 (below_size (ne_ HB.out))); replace HB := kB_ HB hb; (try clear hb); (try clear hb2); (try clear hk); (try clear hi); (try clear ho0); obtain ⟨Ao9, co9, eo9⟩ := Kd.R_slice HO220.out; subst eo9))
  go_ret2
  exact ⟨_, nw_, by first | exact Kd.R_nil _ _ _ _ _ | exact Kd.N_nil _ _ _ _ _ | exact Kd.V_nil _ _ _ _ _ | exact Kd.Q_nil _ _ _ _ _ | exact Kd.S_nil _ _ _ _ _, ne_ HB.out⟩
end Go.Proofs.Ytfpfaaibgaejjaa.Print
