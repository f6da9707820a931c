-- Made by this session's own program (wip/patch_print.py, over the kit's print). Lean checks it.
import Derived.Test.YtfijdkjibjdbiaaPrint0
import Derived.Test.YtfijdkjibjdbiaaPrintB
import Derived.Test.YtfijdkjibjdbiaaPrintF38
import Derived.Test.YtfijdkjibjdbiaaPrintF39
namespace Go.Proofs.Ytfijdkjibjdbiaa.Print
open Go.RowKit Go.Proofs.YtfijdkjibjdbiaaW.PrintWords Go.Proofs.YtfijdkjibjdbiaaW.PrintLast Go.Proofs.YtfijdkjibjdbiaaW.PrintMore Go.Proofs.YtfijdkjibjdbiaaX
attribute [local go_sem] max2_int min2_int max_two min_two max_three min_three max_four min_four   -- for this text's walks alone
set_option linter.unusedVariables false
set_option linter.unusedSimpArgs false

/-! ### impl_Net_from: function 26 -/
def impl_Net_from.f (k : Nat) (a0_0 : Int) (l0_1 : List (S36)) (a1 : Int) : Option (List Int) := (impl_Net_back.f k a0_0 l0_1).bind fun bt359 => ((impl_Net_toward.f k bt359.1 bt359.2 a1).bind fun t363 => ((impl_costs.f k t363).bind fun t366 => (some t366)))
theorem impl_Net_from.mono : ∀ a0 a1 a2 k, LeO (impl_Net_from.f k a0 a1 a2) (impl_Net_from.f (k + 1) a0 a1 a2) := by
  intro a0 a1 a2 k
  unfold impl_Net_from.f
  repeat' first | (with_reducible first | exact impl_Net_back.mono _ _ _ | exact impl_Net_toward.mono _ _ _ _ | exact impl_costs.mono _ _ | exact LeO.refl _ | exact LeO.none _ | refine LeO.ite ?_ ?_ | refine LeO.bind ?_ (fun _ => ?_)) | exact impl_Net_back.mono _ _ _ | exact impl_Net_toward.mono _ _ _ _ | exact impl_costs.mono _ _ | exact LeO.none _ | refine LeO.ite ?_ ?_ | refine LeO.bind ?_ (fun _ => ?_)
set_option maxHeartbeats 200000000 in
set_option maxRecDepth 100000 in
theorem impl_Net_from.calls (k : Nat) (a0_0 : Int) (A0_1 : Option Addr) (c0_1 : Nat) (l0_1 : List (S36)) (a1 : Int) (r : List Int) (w : World) (hr0_1 : Kd.C k36 w A0_1 l0_1.length l0_1) (hc0_1 : l0_1.length ≤ c0_1) (h : impl_Net_from.f k a0_0 l0_1 a1 = some r) :
    Calls Try.prog 26 #[.agg #[.int .i64 a0_0, .slice A0_1 l0_1.length c0_1], .int .i64 a1] w fun e w' => ∃ v0_ : Value, e = .returned (v0_) ∧ Kd.R (Kd.int .i64) 3 w' w.heap.size (fun _ => True) v0_ r ∧ Below w.heap.size w w' := by
  have hu25 := Try.underlying25
  have HR0_1 := Aside0.mk hr0_1
  have HC0_1 := Aside0.mk hc0_1
  clear hr0_1 hc0_1
  have HB := Aside0.mk (Below.refl w.heap.size w)
  have H : ((impl_Net_back.f k a0_0 l0_1).bind fun bt359 => ((impl_Net_toward.f k bt359.1 bt359.2 a1).bind fun t363 => ((impl_costs.f k t363).bind fun t366 => (some t366)))) = some r := h
  clear h
  replace H := Option.bind_eq_some_iff.mp H
  obtain ⟨⟨t359, t360⟩, A30, H⟩ := H
  replace H : ((impl_Net_toward.f k t359 t360 a1).bind fun t363 => ((impl_costs.f k t363).bind fun t366 => (some t366))) = some r := H
  have A3 := Aside0.mk A30
  clear A30
  replace H := Option.bind_eq_some_iff.mp H
  obtain ⟨t363, A40, H⟩ := H
  replace H : ((impl_costs.f k t363).bind fun t366 => (some t366)) = some r := H
  have A4 := Aside0.mk A40
  clear A40
  replace H := Option.bind_eq_some_iff.mp H
  obtain ⟨t366, A50, H⟩ := H
  replace H : (some t366) = some r := H
  have A5 := Aside0.mk A50
  clear A50
  obtain rfl := Option.some.inj H
  go_enter Try.func26, Try.ntmps26
  go_wp2_with (first | ((with_reducible refine gate_dst (N := 2) rfl ?_); refine bx_ 2 #[.int .i64 a0_0, .slice A0_1 l0_1.length c0_1] 25 ?_; intro gb358 hg w6 hbox hb; have BK358 := Aside0.mk (hbox); have GW358 := Aside0.mk (zs_ hg (ne_ HB.out)); have GE358 := Aside0.mk (zs_ hg (ne_ HB.out)); replace HB := kB_ HB hb; clear hb hbox hg; obtain ⟨hcz7_0, hcz7_1, hfz7_0, hfz7_1⟩ := cz2_ BK358.out) | ((with_reducible refine gate_callee (f := 38) rfl ?_); refine gl_ (some 6) Try.func38 #[.agg #[.int .i64 a0_0, .slice A0_1 l0_1.length c0_1]] ?_; (with_reducible refine (impl_Net_back.calls k a0_0 _ _ l0_1 t359 t360 _ ?side1 ?side2 A3.out).mono ?_); (case side1 => exact nc_ (Kd.C_below HR0_1.out HB.out)); (case side2 => exact HC0_1.out); rintro e w8 ⟨v361, rfl, ho0, hb⟩; refine ⟨_, rfl, ?_⟩; have HO362 := Aside0.mk (Kd.R_lower ho0 (below_size (ne_ HB.out))); replace BK358 := kb_ BK358 hb; replace HB := kB_ HB hb; (try clear hb); (try clear hb2); (try clear hk); (try clear hi); (try clear ho0); obtain ⟨Ao9, co9, eo9⟩ := Kd.R_slice HO362.out; subst eo9) | ((with_reducible refine gate_callee (f := 39) rfl ?_); refine gl_ (some 8) Try.func39 #[.agg #[.int .i64 t359, .slice Ao9 t360.length co9], .int .i64 a1] ?_; (with_reducible refine (impl_Net_toward.calls k t359 _ _ t360 a1 t363 _ ?side1 ?side2 A4.out).mono ?_); (case side1 => exact nc_ (Kd.R_reads' HO362.out).2.2); (case side2 => exact (Kd.R_reads' HO362.out).2.1); rintro e w10 ⟨v364, rfl, ho0, hb⟩; refine ⟨_, rfl, ?_⟩; have HO365 := Aside0.mk (Kd.R_lower ho0 (below_size (ne_ HB.out))); replace HO362 := kR_ HO362 hb; replace BK358 := kb_ BK358 hb; replace HB := kB_ HB hb; (try clear hb); (try clear hb2); (try clear hk); (try clear hi); (try clear ho0); obtain ⟨Ao11, co11, eo11⟩ := Kd.R_slice HO365.out; subst eo11) | ((with_reducible refine gate_callee (f := 37) rfl ?_); refine gl_ (some 9) Try.func37 #[.slice Ao11 t363.length co11] ?_; (with_reducible refine (impl_costs.calls k _ _ t363 t366 _ ?side1 ?side2 A5.out).mono ?_); (case side1 => exact nc_ (Kd.R_reads' HO365.out).2.2); (case side2 => exact (Kd.R_reads' HO365.out).2.1); rintro e w12 ⟨v367, rfl, ho0, hb⟩; refine ⟨_, rfl, ?_⟩; have HO368 := Aside0.mk (Kd.R_lower ho0 (below_size (ne_ HB.out))); replace HO362 := kR_ HO362 hb; replace HO365 := kR_ HO365 hb; replace BK358 := kb_ BK358 hb; replace HB := kB_ HB hb; (try clear hb); (try clear hb2); (try clear hk); (try clear hi); (try clear ho0)))
  go_ret
  exact ⟨_, nw_, nr_ HO368.out, ne_ HB.out⟩

end Go.Proofs.Ytfijdkjibjdbiaa.Print
