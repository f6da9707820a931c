-- Made by this session's own program (wip/patch_print.py, over the kit's print). Lean checks it.
import Derived.Test.YtcfmejfmjjgoaaaPrint0
import Derived.Test.YtcfmejfmjjgoaaaPrintB
import Derived.Test.YtcfmejfmjjgoaaaPrintF90
import Derived.Test.YtcfmejfmjjgoaaaPrintF91
namespace Go.Proofs.Ytcfmejfmjjgoaaa.Print
open Go.RowKit Go.Proofs.YtcfmejfmjjgoaaaW.PrintWords Go.Proofs.YtcfmejfmjjgoaaaW.PrintLast Go.Proofs.YtcfmejfmjjgoaaaW.PrintMore Go.Proofs.YtcfmejfmjjgoaaaX
attribute [local go_sem] max2_int min2_int max_two min_two max_three min_three max_four min_four   -- for this text's walks alone
set_option linter.unusedVariables false
set_option linter.unusedSimpArgs false

/-! ### impl_Net_from: function 74 -/
def impl_Net_from.f (k : Nat) (a0_0 : Int) (l0_1 : List (S33)) (a1 : Int) : Option (List Int) := (impl_Net_back.f k a0_0 l0_1).bind fun bt884 => ((impl_Net_toward.f k bt884.1 bt884.2 a1).bind fun t888 => ((impl_costs.f k t888).bind fun t891 => (some t891)))
set_option maxHeartbeats 200000000 in
set_option maxRecDepth 100000 in
theorem impl_Net_from.calls (k : Nat) (a0_0 : Int) (A0_1 : Option Addr) (c0_1 : Nat) (l0_1 : List (S33)) (a1 : Int) (r : List Int) (w : World) (hr0_1 : Kd.C k33 w A0_1 l0_1.length l0_1) (hc0_1 : l0_1.length ≤ c0_1) (h : impl_Net_from.f k a0_0 l0_1 a1 = some r) :
    Calls Try.prog 74 #[.agg #[.int .i64 a0_0, .slice A0_1 l0_1.length c0_1], .int .i64 a1] w fun e w' => ∃ v0_ : Value, e = .returned (v0_) ∧ Kd.R (Kd.int .i64) 3 w' w.heap.size (fun _ => True) v0_ r ∧ Below w.heap.size w w' := by
  have hu25 := Try.underlying25
  have HR0_1 := Aside0.mk hr0_1
  have HC0_1 := Aside0.mk hc0_1
  clear hr0_1 hc0_1
  have HB := Aside0.mk (Below.refl w.heap.size w)
  have H : ((impl_Net_back.f k a0_0 l0_1).bind fun bt884 => ((impl_Net_toward.f k bt884.1 bt884.2 a1).bind fun t888 => ((impl_costs.f k t888).bind fun t891 => (some t891)))) = some r := h
  clear h
  replace H := Option.bind_eq_some_iff.mp H
  obtain ⟨⟨t884, t885⟩, A30, H⟩ := H
  replace H : ((impl_Net_toward.f k t884 t885 a1).bind fun t888 => ((impl_costs.f k t888).bind fun t891 => (some t891))) = some r := H
  have A3 := Aside0.mk A30
  clear A30
  replace H := Option.bind_eq_some_iff.mp H
  obtain ⟨t888, A40, H⟩ := H
  replace H : ((impl_costs.f k t888).bind fun t891 => (some t891)) = some r := H
  have A4 := Aside0.mk A40
  clear A40
  replace H := Option.bind_eq_some_iff.mp H
  obtain ⟨t891, A50, H⟩ := H
  replace H : (some t891) = some r := H
  have A5 := Aside0.mk A50
  clear A50
  obtain rfl := Option.some.inj H
  go_enter Try.func74, Try.ntmps74
  go_wp2_with (first | ((with_reducible refine gate_dst (N := 2) rfl ?_); refine bx_ 2 #[.int .i64 a0_0, .slice A0_1 l0_1.length c0_1] 25 ?_; intro gb883 hg w6 hbox hb; have BK883 := Aside0.mk (hbox); have GW883 := Aside0.mk (zs_ hg (ne_ HB.out)); have GE883 := Aside0.mk (zs_ hg (ne_ HB.out)); replace HB := kB_ HB hb; clear hb hbox hg; obtain ⟨hcz7_0, hcz7_1, hfz7_0, hfz7_1⟩ := cz2_ BK883.out) | ((with_reducible refine gate_callee (f := 90) rfl ?_); refine gl_ (some 6) Try.func90 #[.agg #[.int .i64 a0_0, .slice A0_1 l0_1.length c0_1]] ?_; (with_reducible refine (impl_Net_back.calls k a0_0 _ _ l0_1 t884 t885 _ ?side1 ?side2 A3.out).mono ?_); (case side1 => exact nc_ (Kd.C_below HR0_1.out HB.out)); (case side2 => exact HC0_1.out); rintro e w8 ⟨v886, rfl, ho0, hb⟩; refine ⟨_, rfl, ?_⟩; have HO887 := Aside0.mk (Kd.R_lower ho0 (below_size (ne_ HB.out))); replace BK883 := kb_ BK883 hb; replace HB := kB_ HB hb; (try clear hb); (try clear hb2); (try clear hk); (try clear hi); (try clear ho0); obtain ⟨Ao9, co9, eo9⟩ := Kd.R_slice HO887.out; subst eo9) | ((with_reducible refine gate_callee (f := 91) rfl ?_); refine gl_ (some 8) Try.func91 #[.agg #[.int .i64 t884, .slice Ao9 t885.length co9], .int .i64 a1] ?_; (with_reducible refine (impl_Net_toward.calls k t884 _ _ t885 a1 t888 _ ?side1 ?side2 A4.out).mono ?_); (case side1 => exact nc_ (Kd.R_reads' HO887.out).2.2); (case side2 => exact (Kd.R_reads' HO887.out).2.1); rintro e w10 ⟨v889, rfl, ho0, hb⟩; refine ⟨_, rfl, ?_⟩; have HO890 := Aside0.mk (Kd.R_lower ho0 (below_size (ne_ HB.out))); replace HO887 := kR_ HO887 hb; replace BK883 := kb_ BK883 hb; replace HB := kB_ HB hb; (try clear hb); (try clear hb2); (try clear hk); (try clear hi); (try clear ho0); obtain ⟨Ao11, co11, eo11⟩ := Kd.R_slice HO890.out; subst eo11) | ((with_reducible refine gate_callee (f := 89) rfl ?_); refine gl_ (some 9) Try.func89 #[.slice Ao11 t888.length co11] ?_; (with_reducible refine (impl_costs.calls k _ _ t888 t891 _ ?side1 ?side2 A5.out).mono ?_); (case side1 => exact nc_ (Kd.R_reads' HO890.out).2.2); (case side2 => exact (Kd.R_reads' HO890.out).2.1); rintro e w12 ⟨v892, rfl, ho0, hb⟩; refine ⟨_, rfl, ?_⟩; have HO893 := Aside0.mk (Kd.R_lower ho0 (below_size (ne_ HB.out))); replace HO887 := kR_ HO887 hb; replace HO890 := kR_ HO890 hb; replace BK883 := kb_ BK883 hb; replace HB := kB_ HB hb; (try clear hb); (try clear hb2); (try clear hk); (try clear hi); (try clear ho0)))
  go_ret
  exact ⟨_, nw_, nr_ HO893.out, ne_ HB.out⟩

end Go.Proofs.Ytcfmejfmjjgoaaa.Print
