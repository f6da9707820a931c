-- Made by this session's own program (wip/patch_print.py, over the kit's print). Lean checks it.
import Derived.Test.YtcfmejfmjjgoaaaPrint0
import Derived.Test.YtcfmejfmjjgoaaaPrintB
import Derived.Test.YtcfmejfmjjgoaaaPrintF14
import Derived.Test.YtcfmejfmjjgoaaaPrintF15
import Derived.Test.YtcfmejfmjjgoaaaPrintF18
import Derived.Test.YtcfmejfmjjgoaaaPrintF19
import Derived.Test.YtcfmejfmjjgoaaaPrintF20
import Derived.Test.YtcfmejfmjjgoaaaPrintF21
namespace Go.Proofs.Ytcfmejfmjjgoaaa.Print
open Go.RowKit Go.Proofs.YtcfmejfmjjgoaaaW.PrintWords Go.Proofs.YtcfmejfmjjgoaaaW.PrintLast Go.Proofs.YtcfmejfmjjgoaaaW.PrintMore Go.Proofs.YtcfmejfmjjgoaaaX
attribute [local go_sem] max2_int min2_int max_two min_two max_three min_three max_four min_four   -- for this text's walks alone
set_option linter.unusedVariables false
set_option linter.unusedSimpArgs false

abbrev rB4 := @Kd.R_below
abbrev rR4 := @Kd.R_reads'
/-! ### laws_FnExactTurnsOk: function 4 -/
def laws_FnExactTurnsOk.f (k : Nat) (a0_0 : Int) (l0_1 : List (S97)) (l1 : List (S76)) : Option (Bool) := (laws_szNet.f a0_0 l0_1 1048576).bind fun t356 => (if t356 < 0 then (some true) else ((laws_szTurnS.f l1 t356).bind fun t357 => (if t357 < 0 then (some true) else ((laws_toNet.f k a0_0 l0_1).bind fun bt358 => ((laws_toTurnS.f k l1).bind fun t362 => ((spec_TurnsOk.f k bt358.1 bt358.2 t362).bind fun t365 => ((laws_toNet.f k a0_0 l0_1).bind fun bt366 => ((laws_toTurnS.f k l1).bind fun t371 => ((impl_TurnsOk.f k bt366.1 bt366.2 t371).bind fun t374 => (if (t374 != t365) = true then (some false) else ((laws_toNet.f k a0_0 l0_1).bind fun bt375 => ((laws_eqNet.f k bt366.1 bt366.2 bt375.1 bt375.2).bind fun t379 => (if t379 = true then ((laws_toTurnS.f k l1).bind fun t380 => ((laws_eqTurnS.f k t371 t380).bind fun t383 => (if t383 = true then (some true) else (some false)))) else (some false))))))))))))))
theorem laws_FnExactTurnsOk.mono : ∀ a0 a1 a2 k, LeO (laws_FnExactTurnsOk.f k a0 a1 a2) (laws_FnExactTurnsOk.f (k + 1) a0 a1 a2) := by
  intro a0 a1 a2 k
  unfold laws_FnExactTurnsOk.f
  repeat' first | (with_reducible first | exact impl_TurnsOk.mono _ _ _ _ | exact laws_eqNet.mono _ _ _ _ _ | exact laws_eqTurnS.mono _ _ _ | exact laws_toNet.mono _ _ _ | exact laws_toTurnS.mono _ _ | exact spec_TurnsOk.mono _ _ _ _ | exact LeO.refl _ | exact LeO.none _ | refine LeO.ite ?_ ?_ | refine LeO.bind ?_ (fun _ => ?_)) | exact impl_TurnsOk.mono _ _ _ _ | exact laws_eqNet.mono _ _ _ _ _ | exact laws_eqTurnS.mono _ _ _ | exact laws_toNet.mono _ _ _ | exact laws_toTurnS.mono _ _ | exact spec_TurnsOk.mono _ _ _ _ | exact LeO.none _ | refine LeO.ite ?_ ?_ | refine LeO.bind ?_ (fun _ => ?_)
set_option maxHeartbeats 200000000 in
set_option maxRecDepth 100000 in
theorem laws_FnExactTurnsOk.calls (k : Nat) (a0_0 : Int) (A0_1 : Option Addr) (c0_1 : Nat) (l0_1 : List (S97)) (A1 : Option Addr) (c1 : Nat) (l1 : List (S76)) (r : Bool) (w : World) (hr0_1 : Kd.C k97 w A0_1 l0_1.length l0_1) (hc0_1 : l0_1.length ≤ c0_1) (hr1 : Kd.C k76 w A1 l1.length l1) (hc1 : l1.length ≤ c1) (h : laws_FnExactTurnsOk.f k a0_0 l0_1 l1 = some r) :
    Calls Try.prog 4 #[.agg #[.int .i64 a0_0, .slice A0_1 l0_1.length c0_1], .slice A1 l1.length c1] w fun e w' => e = .returned (.bool r) ∧ Below w.heap.size w w' := by
  have hu37 := Try.underlying37
  have hu25 := Try.underlying25
  have HR0_1 := Aside0.mk hr0_1
  have HC0_1 := Aside0.mk hc0_1
  clear hr0_1 hc0_1
  have HR1 := Aside0.mk hr1
  have HC1 := Aside0.mk hc1
  clear hr1 hc1
  have HB := Aside0.mk (Below.refl w.heap.size w)
  have H : ((laws_szNet.f a0_0 l0_1 1048576).bind fun t356 => (if t356 < 0 then (some true) else ((laws_szTurnS.f l1 t356).bind fun t357 => (if t357 < 0 then (some true) else ((laws_toNet.f k a0_0 l0_1).bind fun bt358 => ((laws_toTurnS.f k l1).bind fun t362 => ((spec_TurnsOk.f k bt358.1 bt358.2 t362).bind fun t365 => ((laws_toNet.f k a0_0 l0_1).bind fun bt366 => ((laws_toTurnS.f k l1).bind fun t371 => ((impl_TurnsOk.f k bt366.1 bt366.2 t371).bind fun t374 => (if (t374 != t365) = true then (some false) else ((laws_toNet.f k a0_0 l0_1).bind fun bt375 => ((laws_eqNet.f k bt366.1 bt366.2 bt375.1 bt375.2).bind fun t379 => (if t379 = true then ((laws_toTurnS.f k l1).bind fun t380 => ((laws_eqTurnS.f k t371 t380).bind fun t383 => (if t383 = true then (some true) else (some false)))) else (some false))))))))))))))) = some r := h
  clear h
  replace H := Option.bind_eq_some_iff.mp H
  obtain ⟨t356, A30, H⟩ := H
  replace H : (if t356 < 0 then (some true) else ((laws_szTurnS.f l1 t356).bind fun t357 => (if t357 < 0 then (some true) else ((laws_toNet.f k a0_0 l0_1).bind fun bt358 => ((laws_toTurnS.f k l1).bind fun t362 => ((spec_TurnsOk.f k bt358.1 bt358.2 t362).bind fun t365 => ((laws_toNet.f k a0_0 l0_1).bind fun bt366 => ((laws_toTurnS.f k l1).bind fun t371 => ((impl_TurnsOk.f k bt366.1 bt366.2 t371).bind fun t374 => (if (t374 != t365) = true then (some false) else ((laws_toNet.f k a0_0 l0_1).bind fun bt375 => ((laws_eqNet.f k bt366.1 bt366.2 bt375.1 bt375.2).bind fun t379 => (if t379 = true then ((laws_toTurnS.f k l1).bind fun t380 => ((laws_eqTurnS.f k t371 t380).bind fun t383 => (if t383 = true then (some true) else (some false)))) else (some false)))))))))))))) = some r := H
  have A3 := Aside0.mk A30
  clear A30
  by_cases c4 : t356 < 0
  ·rw [if_pos c4] at H
   have c4b0 : decide (t356 < 0) = true := decide_eq_true c4
   clear c4
   obtain rfl := Option.some.inj H
   go_enter Try.func4, Try.ntmps4
   go_wp2_with (first | ((with_reducible refine gate_dst (N := 2) rfl ?_); refine bx_ 2 #[.int .i64 a0_0, .slice A0_1 l0_1.length c0_1] 37 ?_; intro gb355 hg w5 hbox hb; have BK355 := Aside0.mk (hbox); have GW355 := Aside0.mk (zs_ hg (ne_ HB.out)); have GE355 := Aside0.mk (zs_ hg (ne_ HB.out)); replace HB := kB_ HB hb; clear hb hbox hg; obtain ⟨hcz6_0, hcz6_1, hfz6_0, hfz6_1⟩ := cz2_ BK355.out) | ((with_reducible refine gate_callee (f := 16) rfl ?_); refine gl_ (some 12) Try.func16 #[.agg #[.int .i64 a0_0, .slice A0_1 l0_1.length c0_1], .int .i64 1048576] ?_; (with_reducible refine (laws_szNet.calls a0_0 _ _ l0_1 1048576 t356 _ ?side1 ?side2 A3.out).mono ?_); (case side1 => exact nc_ (Kd.C_below HR0_1.out HB.out)); (case side2 => exact HC0_1.out); rintro e w7 ⟨rfl, hb⟩; refine ⟨_, rfl, ?_⟩; replace BK355 := kb_ BK355 hb; replace HB := kB_ HB hb; (try clear hb); (try clear hb2); (try clear hk); (try clear hi)))
   go_ret
   exact ⟨nw_, ne_ HB.out⟩
  rw [if_neg c4] at H
  have c4b0 : decide (t356 < 0) = false := decide_eq_false c4
  clear c4
  replace H := Option.bind_eq_some_iff.mp H
  obtain ⟨t357, A80, H⟩ := H
  replace H : (if t357 < 0 then (some true) else ((laws_toNet.f k a0_0 l0_1).bind fun bt358 => ((laws_toTurnS.f k l1).bind fun t362 => ((spec_TurnsOk.f k bt358.1 bt358.2 t362).bind fun t365 => ((laws_toNet.f k a0_0 l0_1).bind fun bt366 => ((laws_toTurnS.f k l1).bind fun t371 => ((impl_TurnsOk.f k bt366.1 bt366.2 t371).bind fun t374 => (if (t374 != t365) = true then (some false) else ((laws_toNet.f k a0_0 l0_1).bind fun bt375 => ((laws_eqNet.f k bt366.1 bt366.2 bt375.1 bt375.2).bind fun t379 => (if t379 = true then ((laws_toTurnS.f k l1).bind fun t380 => ((laws_eqTurnS.f k t371 t380).bind fun t383 => (if t383 = true then (some true) else (some false)))) else (some false)))))))))))) = some r := H
  have A8 := Aside0.mk A80
  clear A80
  by_cases c9 : t357 < 0
  ·rw [if_pos c9] at H
   have c9b0 : decide (t357 < 0) = true := decide_eq_true c9
   clear c9
   obtain rfl := Option.some.inj H
   go_enter Try.func4, Try.ntmps4
   go_wp2_with (first | ((with_reducible refine gate_dst (N := 2) rfl ?_); refine bx_ 2 #[.int .i64 a0_0, .slice A0_1 l0_1.length c0_1] 37 ?_; intro gb355 hg w10 hbox hb; have BK355 := Aside0.mk (hbox); have GW355 := Aside0.mk (zs_ hg (ne_ HB.out)); have GE355 := Aside0.mk (zs_ hg (ne_ HB.out)); replace HB := kB_ HB hb; clear hb hbox hg; obtain ⟨hcz11_0, hcz11_1, hfz11_0, hfz11_1⟩ := cz2_ BK355.out) | ((with_reducible refine gate_callee (f := 16) rfl ?_); refine gl_ (some 12) Try.func16 #[.agg #[.int .i64 a0_0, .slice A0_1 l0_1.length c0_1], .int .i64 1048576] ?_; (with_reducible refine (laws_szNet.calls a0_0 _ _ l0_1 1048576 t356 _ ?side1 ?side2 A3.out).mono ?_); (case side1 => exact nc_ (Kd.C_below HR0_1.out HB.out)); (case side2 => exact HC0_1.out); rintro e w12 ⟨rfl, hb⟩; refine ⟨_, rfl, ?_⟩; replace BK355 := kb_ BK355 hb; replace HB := kB_ HB hb; (try clear hb); (try clear hb2); (try clear hk); (try clear hi)) | ((with_reducible refine gate_callee (f := 17) rfl ?_); refine gl_ (some 17) Try.func17 #[.slice A1 l1.length c1, .int .i64 t356] ?_; (with_reducible refine (laws_szTurnS.calls _ _ l1 t356 t357 _ ?side1 ?side2 A8.out).mono ?_); (case side1 => exact nc_ (Kd.C_below HR1.out HB.out)); (case side2 => exact HC1.out); rintro e w' ⟨rfl, ⟨nd, rfl⟩⟩; refine ⟨_, rfl, ?_⟩))
   go_ret
   exact ⟨nw_, ne_ HB.out⟩
  rw [if_neg c9] at H
  have c9b0 : decide (t357 < 0) = false := decide_eq_false c9
  clear c9
  replace H := Option.bind_eq_some_iff.mp H
  obtain ⟨⟨t358, t359⟩, A130, H⟩ := H
  replace H : ((laws_toTurnS.f k l1).bind fun t362 => ((spec_TurnsOk.f k t358 t359 t362).bind fun t365 => ((laws_toNet.f k a0_0 l0_1).bind fun bt366 => ((laws_toTurnS.f k l1).bind fun t371 => ((impl_TurnsOk.f k bt366.1 bt366.2 t371).bind fun t374 => (if (t374 != t365) = true then (some false) else ((laws_toNet.f k a0_0 l0_1).bind fun bt375 => ((laws_eqNet.f k bt366.1 bt366.2 bt375.1 bt375.2).bind fun t379 => (if t379 = true then ((laws_toTurnS.f k l1).bind fun t380 => ((laws_eqTurnS.f k t371 t380).bind fun t383 => (if t383 = true then (some true) else (some false)))) else (some false)))))))))) = some r := H
  have A13 := Aside0.mk A130
  clear A130
  replace H := Option.bind_eq_some_iff.mp H
  obtain ⟨t362, A140, H⟩ := H
  replace H : ((spec_TurnsOk.f k t358 t359 t362).bind fun t365 => ((laws_toNet.f k a0_0 l0_1).bind fun bt366 => ((laws_toTurnS.f k l1).bind fun t371 => ((impl_TurnsOk.f k bt366.1 bt366.2 t371).bind fun t374 => (if (t374 != t365) = true then (some false) else ((laws_toNet.f k a0_0 l0_1).bind fun bt375 => ((laws_eqNet.f k bt366.1 bt366.2 bt375.1 bt375.2).bind fun t379 => (if t379 = true then ((laws_toTurnS.f k l1).bind fun t380 => ((laws_eqTurnS.f k t371 t380).bind fun t383 => (if t383 = true then (some true) else (some false)))) else (some false))))))))) = some r := H
  have A14 := Aside0.mk A140
  clear A140
  replace H := Option.bind_eq_some_iff.mp H
  obtain ⟨t365, A150, H⟩ := H
  replace H : ((laws_toNet.f k a0_0 l0_1).bind fun bt366 => ((laws_toTurnS.f k l1).bind fun t371 => ((impl_TurnsOk.f k bt366.1 bt366.2 t371).bind fun t374 => (if (t374 != t365) = true then (some false) else ((laws_toNet.f k a0_0 l0_1).bind fun bt375 => ((laws_eqNet.f k bt366.1 bt366.2 bt375.1 bt375.2).bind fun t379 => (if t379 = true then ((laws_toTurnS.f k l1).bind fun t380 => ((laws_eqTurnS.f k t371 t380).bind fun t383 => (if t383 = true then (some true) else (some false)))) else (some false)))))))) = some r := H
  have A15 := Aside0.mk A150
  clear A150
  replace H := Option.bind_eq_some_iff.mp H
  obtain ⟨⟨t366, t367⟩, A160, H⟩ := H
  replace H : ((laws_toTurnS.f k l1).bind fun t371 => ((impl_TurnsOk.f k t366 t367 t371).bind fun t374 => (if (t374 != t365) = true then (some false) else ((laws_toNet.f k a0_0 l0_1).bind fun bt375 => ((laws_eqNet.f k t366 t367 bt375.1 bt375.2).bind fun t379 => (if t379 = true then ((laws_toTurnS.f k l1).bind fun t380 => ((laws_eqTurnS.f k t371 t380).bind fun t383 => (if t383 = true then (some true) else (some false)))) else (some false))))))) = some r := H
  have A16 := Aside0.mk A160
  clear A160
  replace H := Option.bind_eq_some_iff.mp H
  obtain ⟨t371, A170, H⟩ := H
  replace H : ((impl_TurnsOk.f k t366 t367 t371).bind fun t374 => (if (t374 != t365) = true then (some false) else ((laws_toNet.f k a0_0 l0_1).bind fun bt375 => ((laws_eqNet.f k t366 t367 bt375.1 bt375.2).bind fun t379 => (if t379 = true then ((laws_toTurnS.f k l1).bind fun t380 => ((laws_eqTurnS.f k t371 t380).bind fun t383 => (if t383 = true then (some true) else (some false)))) else (some false)))))) = some r := H
  have A17 := Aside0.mk A170
  clear A170
  replace H := Option.bind_eq_some_iff.mp H
  obtain ⟨t374, A180, H⟩ := H
  replace H : (if (t374 != t365) = true then (some false) else ((laws_toNet.f k a0_0 l0_1).bind fun bt375 => ((laws_eqNet.f k t366 t367 bt375.1 bt375.2).bind fun t379 => (if t379 = true then ((laws_toTurnS.f k l1).bind fun t380 => ((laws_eqTurnS.f k t371 t380).bind fun t383 => (if t383 = true then (some true) else (some false)))) else (some false))))) = some r := H
  have A18 := Aside0.mk A180
  clear A180
  by_cases c19 : (t374 != t365) = true
  ·rw [if_pos c19] at H
   have c19b0 : (t374 != t365) = true := c19
   (try (have c19b1 : decide (t374 = t365) = false := by simpa using c19))
   (try (have c19b2 : (t374 == t365) = false := by simpa using c19))
   (try (have c19b3 : ¬ (t374 = t365) := by simpa using c19))
   clear c19
   obtain rfl := Option.some.inj H
   go_enter Try.func4, Try.ntmps4
   go_wp2_with (first | ((with_reducible refine gate_dst (N := 2) rfl ?_); refine bx_ 2 #[.int .i64 a0_0, .slice A0_1 l0_1.length c0_1] 37 ?_; intro gb355 hg w20 hbox hb; have BK355 := Aside0.mk (hbox); have GW355 := Aside0.mk (zs_ hg (ne_ HB.out)); have GE355 := Aside0.mk (zs_ hg (ne_ HB.out)); replace HB := kB_ HB hb; clear hb hbox hg; obtain ⟨hcz21_0, hcz21_1, hfz21_0, hfz21_1⟩ := cz2_ BK355.out) | ((with_reducible refine gate_callee (f := 16) rfl ?_); refine gl_ (some 12) Try.func16 #[.agg #[.int .i64 a0_0, .slice A0_1 l0_1.length c0_1], .int .i64 1048576] ?_; (with_reducible refine (laws_szNet.calls a0_0 _ _ l0_1 1048576 t356 _ ?side1 ?side2 A3.out).mono ?_); (case side1 => exact nc_ (Kd.C_below HR0_1.out HB.out)); (case side2 => exact HC0_1.out); rintro e w22 ⟨rfl, hb⟩; refine ⟨_, rfl, ?_⟩; replace BK355 := kb_ BK355 hb; replace HB := kB_ HB hb; (try clear hb); (try clear hb2); (try clear hk); (try clear hi)) | ((with_reducible refine gate_callee (f := 17) rfl ?_); refine gl_ (some 17) Try.func17 #[.slice A1 l1.length c1, .int .i64 t356] ?_; (with_reducible refine (laws_szTurnS.calls _ _ l1 t356 t357 _ ?side1 ?side2 A8.out).mono ?_); (case side1 => exact nc_ (Kd.C_below HR1.out HB.out)); (case side2 => exact HC1.out); rintro e w' ⟨rfl, ⟨nd, rfl⟩⟩; refine ⟨_, rfl, ?_⟩; (first | (rw [drewN_self w22]; generalize hq_ : World.drewN w22 _ = w22; replace BK355 : Aside0 (w22.heap[gb355]? = some (.cells #[.int .i64 a0_0, .slice A0_1 l0_1.length c0_1] 37 (0, 0))) := ⟨by rw [← hq_]; exact (nb_ BK355.out)⟩; replace HB : Aside0 (Below w.heap.size w w22) := ⟨by rw [← hq_]; exact (ne_ HB.out)⟩; clear hq_) | (have n0_ : Aside0 (w22.heap[gb355]? = some (.cells #[.int .i64 a0_0, .slice A0_1 l0_1.length c0_1] 37 (0, 0))) := ⟨(nb_ BK355.out)⟩; have n1_ : Aside0 (Below w.heap.size w w22) := ⟨(ne_ HB.out)⟩; clear BK355 HB; have BK355 := n0_; have HB := n1_; clear n0_ n1_)); obtain ⟨hcz23_0, hcz23_1, hfz23_0, hfz23_1⟩ := cz2_ BK355.out) | ((with_reducible refine gate_callee (f := 18) rfl ?_); refine gl_ (some 21) Try.func18 #[.agg #[.int .i64 a0_0, .slice A0_1 l0_1.length c0_1]] ?_; (with_reducible refine (laws_toNet.calls k a0_0 _ _ l0_1 t358 t359 _ ?side1 ?side2 A13.out).mono ?_); (case side1 => exact nc_ (Kd.C_below HR0_1.out HB.out)); (case side2 => exact HC0_1.out); rintro e w24 ⟨v360, rfl, ho0, hb⟩; refine ⟨_, rfl, ?_⟩; have HO361 := Aside0.mk (Kd.R_lower ho0 (below_size (ne_ HB.out))); replace BK355 := kb_ BK355 hb; replace HB := kB_ HB hb; (try clear hb); (try clear hb2); (try clear hk); (try clear hi); (try clear ho0)) | ((with_reducible refine gate_callee (f := 19) rfl ?_); refine gl_ (some 23) Try.func19 #[.slice A1 l1.length c1] ?_; (with_reducible refine (laws_toTurnS.calls k _ _ l1 t362 _ ?side1 ?side2 A14.out).mono ?_); (case side1 => exact nc_ (Kd.C_below HR1.out HB.out)); (case side2 => exact HC1.out); rintro e w25 ⟨v363, rfl, ho0, hb⟩; refine ⟨_, rfl, ?_⟩; have HO364 := Aside0.mk (Kd.R_lower ho0 (below_size (ne_ HB.out))); replace HO361 := kR_ HO361 hb; replace BK355 := kb_ BK355 hb; replace HB := kB_ HB hb; (try clear hb); (try clear hb2); (try clear hk); (try clear hi); (try clear ho0); obtain ⟨Ao26, co26, eo26⟩ := Kd.R_slice HO361.out; subst eo26; obtain ⟨Ao27, co27, eo27⟩ := Kd.R_slice HO364.out; subst eo27) | ((with_reducible refine gate_callee (f := 15) rfl ?_); refine gl_ (some 24) Try.func15 #[.agg #[.int .i64 t358, .slice Ao26 t359.length co26], .slice Ao27 t362.length co27] ?_; (with_reducible refine (spec_TurnsOk.calls k t358 _ _ t359 _ _ t362 t365 _ ?side1 ?side2 ?side3 ?side4 A15.out).mono ?_); (case side1 => exact nc_ (rR4 HO361.out).2.2); (case side2 => exact (rR4 HO361.out).2.1); (case side3 => exact nc_ (rR4 HO364.out).2.2); (case side4 => exact (rR4 HO364.out).2.1); rintro e w28 ⟨rfl, hb⟩; refine ⟨_, rfl, ?_⟩; replace HO361 := kR_ HO361 hb; replace HO364 := kR_ HO364 hb; replace BK355 := kb_ BK355 hb; replace HB := kB_ HB hb; (try clear hb); (try clear hb2); (try clear hk); (try clear hi); obtain ⟨hcz29_0, hcz29_1, hfz29_0, hfz29_1⟩ := cz2_ BK355.out) | ((with_reducible refine gate_callee (f := 18) rfl ?_); refine gl_ (some 26) Try.func18 #[.agg #[.int .i64 a0_0, .slice A0_1 l0_1.length c0_1]] ?_; (with_reducible refine (laws_toNet.calls k a0_0 _ _ l0_1 t366 t367 _ ?side1 ?side2 A16.out).mono ?_); (case side1 => exact nc_ (Kd.C_below HR0_1.out HB.out)); (case side2 => exact HC0_1.out); rintro e w30 ⟨v368, rfl, ho0, hb⟩; refine ⟨_, rfl, ?_⟩; have HO369 := Aside0.mk (Kd.R_lower (Kd.R_new' ho0 (Kd.R_lt (nr_ HO361.out))) (below_size (ne_ HB.out))); replace HO361 := Aside0.mk (Kd.R_elder' (nr_ HO361.out) (Kd.R_base ho0) hb); replace HO364 := kR_ HO364 hb; replace BK355 := kb_ BK355 hb; replace HB := kB_ HB hb; (try clear hb); (try clear hb2); (try clear hk); (try clear hi); (try clear ho0)) | ((with_reducible refine gate_dst (N := 7) rfl ?_); refine bx_ 7 #[.int .i64 0, .slice none 0 0] 25 ?_; intro gb370 hg w31 hbox hb; have BK370 := Aside0.mk (hbox); have GW370 := Aside0.mk (zs_ hg (ne_ HB.out)); have GE370 := Aside0.mk (zs_ hg (ne_ HB.out)); have NB355_370 := Aside0.mk (nl_ BK355.out hg); have NB370_355 := Aside0.mk (nm_ BK355.out hg); replace HO361 := kR_ HO361 hb; replace HO364 := kR_ HO364 hb; replace HO369 := kR_ HO369 hb; replace BK355 := kb_ BK355 hb; replace HB := kB_ HB hb; clear hb hbox hg; have hnb32 := NB370_355.out; have hnc32 := NB355_370.out; obtain ⟨hcz33_0, hcz33_1, hfz33_0, hfz33_1⟩ := cz2_ BK370.out; obtain ⟨Ao34, co34, eo34⟩ := Kd.R_slice HO369.out; subst eo34) | ((with_reducible refine gate_callee (f := 19) rfl ?_); refine gl_ (some 28) Try.func19 #[.slice A1 l1.length c1] ?_; (with_reducible refine (laws_toTurnS.calls k _ _ l1 t371 _ ?side1 ?side2 A17.out).mono ?_); (case side1 => exact Kd.C_below HR1.out (ne_ HB.out)); (case side2 => exact HC1.out); rintro e w35 ⟨v372, rfl, ho0, hb⟩; refine ⟨_, rfl, ?_⟩; have HO373 := Aside0.mk (Kd.R_lower (Kd.R_new' ho0 (Kd.R_lt (by (with_reducible repeat (first | apply Kd.R_alloc | apply Kd.R_drewN | apply Kd.R_drew)); exact (Kd.R_mono (rf2_ (Kd.R_types HO364.out BK370.out (by decide))) (fun _ h_ => h_.1))))) (below_size (ne_ HB.out))); replace HO361 := Aside0.mk (rB4 (by (with_reducible repeat (first | apply Kd.R_alloc | apply Kd.R_drewN | apply Kd.R_drew)); exact (Kd.R_mono (rf2_ (Kd.R_types HO361.out BK370.out (by decide))) (fun _ h_ => h_.1))) hb); replace HO364 := Aside0.mk (Kd.R_elder' (by (with_reducible repeat (first | apply Kd.R_alloc | apply Kd.R_drewN | apply Kd.R_drew)); exact (Kd.R_mono (rf2_ (Kd.R_types HO364.out BK370.out (by decide))) (fun _ h_ => h_.1))) (Kd.R_base ho0) hb); replace HO369 := Aside0.mk (rB4 (by (with_reducible repeat (first | apply Kd.R_alloc | apply Kd.R_drewN | apply Kd.R_drew)); exact (Kd.R_mono (rf2_ (Kd.R_types HO369.out BK370.out (by decide))) (fun _ h_ => h_.1))) hb); replace BK355 := kf_ BK355 hb; replace BK370 := Aside0.mk (blk_below (g := gb370) (o := .cells #[.int .i64 t366, .slice Ao34 t367.length co34] 25 (0, 0)) (np_ BK370.out) hb); replace HB := kB_ HB hb; (try clear hb); (try clear hb2); (try clear hk); (try clear hi); (try clear ho0); obtain ⟨hcz36_0, hcz36_1, hfz36_0, hfz36_1⟩ := cz2_ BK370.out; obtain ⟨Ao37, co37, eo37⟩ := Kd.R_slice HO373.out; subst eo37) | ((with_reducible refine gate_callee (f := 14) rfl ?_); refine gl_ (some 31) Try.func14 #[.agg #[.int .i64 t366, .slice Ao34 t367.length co34], .slice Ao37 t371.length co37] ?_; (with_reducible refine (impl_TurnsOk.calls k t366 _ _ t367 _ _ t371 t374 _ ?side1 ?side2 ?side3 ?side4 A18.out).mono ?_); (case side1 => exact nc_ (rR4 HO369.out).2.2); (case side2 => exact (rR4 HO369.out).2.1); (case side3 => exact nc_ (rR4 HO373.out).2.2); (case side4 => exact (rR4 HO373.out).2.1); rintro e w38 ⟨rfl, hb⟩; refine ⟨_, rfl, ?_⟩; replace HO361 := kR_ HO361 hb; replace HO364 := kR_ HO364 hb; replace HO369 := kR_ HO369 hb; replace HO373 := kR_ HO373 hb; replace BK355 := kb_ BK355 hb; replace BK370 := kb_ BK370 hb; replace HB := kB_ HB hb; (try clear hb); (try clear hb2); (try clear hk); (try clear hi)))
   go_ret
   exact ⟨nw_, ne_ HB.out⟩
  rw [if_neg c19] at H
  have c19b0 : (t374 != t365) = false := by simpa using c19
  (try (have c19b1 : decide (t374 = t365) = true := by simpa using c19))
  (try (have c19b2 : (t374 == t365) = true := by simpa using c19))
  clear c19
  replace H := Option.bind_eq_some_iff.mp H
  obtain ⟨⟨t375, t376⟩, A390, H⟩ := H
  replace H : ((laws_eqNet.f k t366 t367 t375 t376).bind fun t379 => (if t379 = true then ((laws_toTurnS.f k l1).bind fun t380 => ((laws_eqTurnS.f k t371 t380).bind fun t383 => (if t383 = true then (some true) else (some false)))) else (some false))) = some r := H
  have A39 := Aside0.mk A390
  clear A390
  replace H := Option.bind_eq_some_iff.mp H
  obtain ⟨t379, A400, H⟩ := H
  replace H : (if t379 = true then ((laws_toTurnS.f k l1).bind fun t380 => ((laws_eqTurnS.f k t371 t380).bind fun t383 => (if t383 = true then (some true) else (some false)))) else (some false)) = some r := H
  have A40 := Aside0.mk A400
  clear A400
  by_cases c41 : t379 = true
  rotate_left
  ·replace c41 := Bool.eq_false_iff.mpr c41
   subst c41
   have H1 : (some false) = some r := by rw [if_neg (show ¬ (false = true) by decide)] at H; exact H
   clear H
   have H := H1
   clear H1
   obtain rfl := Option.some.inj H
   go_enter Try.func4, Try.ntmps4
   try go_wp2_with (first | ((with_reducible refine gate_dst (N := 2) rfl ?_); refine bx_ 2 #[.int .i64 a0_0, .slice A0_1 l0_1.length c0_1] 37 ?_; intro gb355 hg w97 hbox hb; have BK355 := Aside0.mk (hbox); have GW355 := Aside0.mk (zs_ hg (ne_ HB.out)); have GE355 := Aside0.mk (zs_ hg (ne_ HB.out)); replace HB := kB_ HB hb; clear hb hbox hg; obtain ⟨hcz98_0, hcz98_1, hfz98_0, hfz98_1⟩ := cz2_ BK355.out) | ((with_reducible refine gate_callee (f := 16) rfl ?_); refine gl_ (some 12) Try.func16 #[.agg #[.int .i64 a0_0, .slice A0_1 l0_1.length c0_1], .int .i64 1048576] ?_; (with_reducible refine (laws_szNet.calls a0_0 _ _ l0_1 1048576 t356 _ ?side1 ?side2 A3.out).mono ?_); (case side1 => exact nc_ (Kd.C_below HR0_1.out HB.out)); (case side2 => exact HC0_1.out); rintro e w99 ⟨rfl, hb⟩; refine ⟨_, rfl, ?_⟩; replace BK355 := kb_ BK355 hb; replace HB := kB_ HB hb; (try clear hb); (try clear hb2); (try clear hk); (try clear hi)) | ((with_reducible refine gate_callee (f := 17) rfl ?_); refine gl_ (some 17) Try.func17 #[.slice A1 l1.length c1, .int .i64 t356] ?_; (with_reducible refine (laws_szTurnS.calls _ _ l1 t356 t357 _ ?side1 ?side2 A8.out).mono ?_); (case side1 => exact nc_ (Kd.C_below HR1.out HB.out)); (case side2 => exact HC1.out); rintro e w' ⟨rfl, ⟨nd, rfl⟩⟩; refine ⟨_, rfl, ?_⟩; (first | (rw [drewN_self w99]; generalize hq_ : World.drewN w99 _ = w99; replace BK355 : Aside0 (w99.heap[gb355]? = some (.cells #[.int .i64 a0_0, .slice A0_1 l0_1.length c0_1] 37 (0, 0))) := ⟨by rw [← hq_]; exact (nb_ BK355.out)⟩; replace HB : Aside0 (Below w.heap.size w w99) := ⟨by rw [← hq_]; exact (ne_ HB.out)⟩; clear hq_) | (have n0_ : Aside0 (w99.heap[gb355]? = some (.cells #[.int .i64 a0_0, .slice A0_1 l0_1.length c0_1] 37 (0, 0))) := ⟨(nb_ BK355.out)⟩; have n1_ : Aside0 (Below w.heap.size w w99) := ⟨(ne_ HB.out)⟩; clear BK355 HB; have BK355 := n0_; have HB := n1_; clear n0_ n1_)); obtain ⟨hcz100_0, hcz100_1, hfz100_0, hfz100_1⟩ := cz2_ BK355.out) | ((with_reducible refine gate_callee (f := 18) rfl ?_); refine gl_ (some 21) Try.func18 #[.agg #[.int .i64 a0_0, .slice A0_1 l0_1.length c0_1]] ?_; (with_reducible refine (laws_toNet.calls k a0_0 _ _ l0_1 t358 t359 _ ?side1 ?side2 A13.out).mono ?_); (case side1 => exact nc_ (Kd.C_below HR0_1.out HB.out)); (case side2 => exact HC0_1.out); rintro e w101 ⟨v360, rfl, ho0, hb⟩; refine ⟨_, rfl, ?_⟩; have HO361 := Aside0.mk (Kd.R_lower ho0 (below_size (ne_ HB.out))); replace BK355 := kb_ BK355 hb; replace HB := kB_ HB hb; (try clear hb); (try clear hb2); (try clear hk); (try clear hi); (try clear ho0)) | ((with_reducible refine gate_callee (f := 19) rfl ?_); refine gl_ (some 23) Try.func19 #[.slice A1 l1.length c1] ?_; (with_reducible refine (laws_toTurnS.calls k _ _ l1 t362 _ ?side1 ?side2 A14.out).mono ?_); (case side1 => exact nc_ (Kd.C_below HR1.out HB.out)); (case side2 => exact HC1.out); rintro e w102 ⟨v363, rfl, ho0, hb⟩; refine ⟨_, rfl, ?_⟩; have HO364 := Aside0.mk (Kd.R_lower ho0 (below_size (ne_ HB.out))); replace HO361 := kR_ HO361 hb; replace BK355 := kb_ BK355 hb; replace HB := kB_ HB hb; (try clear hb); (try clear hb2); (try clear hk); (try clear hi); (try clear ho0); obtain ⟨Ao103, co103, eo103⟩ := Kd.R_slice HO361.out; subst eo103; obtain ⟨Ao104, co104, eo104⟩ := Kd.R_slice HO364.out; subst eo104) | ((with_reducible refine gate_callee (f := 15) rfl ?_); refine gl_ (some 24) Try.func15 #[.agg #[.int .i64 t358, .slice Ao103 t359.length co103], .slice Ao104 t362.length co104] ?_; (with_reducible refine (spec_TurnsOk.calls k t358 _ _ t359 _ _ t362 t365 _ ?side1 ?side2 ?side3 ?side4 A15.out).mono ?_); (case side1 => exact nc_ (rR4 HO361.out).2.2); (case side2 => exact (rR4 HO361.out).2.1); (case side3 => exact nc_ (rR4 HO364.out).2.2); (case side4 => exact (rR4 HO364.out).2.1); rintro e w105 ⟨rfl, hb⟩; refine ⟨_, rfl, ?_⟩; replace HO361 := kR_ HO361 hb; replace HO364 := kR_ HO364 hb; replace BK355 := kb_ BK355 hb; replace HB := kB_ HB hb; (try clear hb); (try clear hb2); (try clear hk); (try clear hi); obtain ⟨hcz106_0, hcz106_1, hfz106_0, hfz106_1⟩ := cz2_ BK355.out) | ((with_reducible refine gate_callee (f := 18) rfl ?_); refine gl_ (some 26) Try.func18 #[.agg #[.int .i64 a0_0, .slice A0_1 l0_1.length c0_1]] ?_; (with_reducible refine (laws_toNet.calls k a0_0 _ _ l0_1 t366 t367 _ ?side1 ?side2 A16.out).mono ?_); (case side1 => exact nc_ (Kd.C_below HR0_1.out HB.out)); (case side2 => exact HC0_1.out); rintro e w107 ⟨v368, rfl, ho0, hb⟩; refine ⟨_, rfl, ?_⟩; have HO369 := Aside0.mk (Kd.R_lower (Kd.R_new' ho0 (Kd.R_lt (nr_ HO361.out))) (below_size (ne_ HB.out))); replace HO361 := Aside0.mk (Kd.R_elder' (nr_ HO361.out) (Kd.R_base ho0) hb); replace HO364 := kR_ HO364 hb; replace BK355 := kb_ BK355 hb; replace HB := kB_ HB hb; (try clear hb); (try clear hb2); (try clear hk); (try clear hi); (try clear ho0)) | ((with_reducible refine gate_dst (N := 7) rfl ?_); refine bx_ 7 #[.int .i64 0, .slice none 0 0] 25 ?_; intro gb370 hg w108 hbox hb; have BK370 := Aside0.mk (hbox); have GW370 := Aside0.mk (zs_ hg (ne_ HB.out)); have GE370 := Aside0.mk (zs_ hg (ne_ HB.out)); have NB355_370 := Aside0.mk (nl_ BK355.out hg); have NB370_355 := Aside0.mk (nm_ BK355.out hg); replace HO361 := kR_ HO361 hb; replace HO364 := kR_ HO364 hb; replace HO369 := kR_ HO369 hb; replace BK355 := kb_ BK355 hb; replace HB := kB_ HB hb; clear hb hbox hg; have hnb109 := NB370_355.out; have hnc109 := NB355_370.out; obtain ⟨hcz110_0, hcz110_1, hfz110_0, hfz110_1⟩ := cz2_ BK370.out; obtain ⟨Ao111, co111, eo111⟩ := Kd.R_slice HO369.out; subst eo111) | ((with_reducible refine gate_callee (f := 19) rfl ?_); refine gl_ (some 28) Try.func19 #[.slice A1 l1.length c1] ?_; (with_reducible refine (laws_toTurnS.calls k _ _ l1 t371 _ ?side1 ?side2 A17.out).mono ?_); (case side1 => exact Kd.C_below HR1.out (ne_ HB.out)); (case side2 => exact HC1.out); rintro e w112 ⟨v372, rfl, ho0, hb⟩; refine ⟨_, rfl, ?_⟩; have HO373 := Aside0.mk (Kd.R_lower (Kd.R_new' ho0 (Kd.R_lt (by (with_reducible repeat (first | apply Kd.R_alloc | apply Kd.R_drewN | apply Kd.R_drew)); exact (Kd.R_mono (rf2_ (Kd.R_types HO364.out BK370.out (by decide))) (fun _ h_ => h_.1))))) (below_size (ne_ HB.out))); replace HO361 := Aside0.mk (rB4 (by (with_reducible repeat (first | apply Kd.R_alloc | apply Kd.R_drewN | apply Kd.R_drew)); exact (Kd.R_mono (rf2_ (Kd.R_types HO361.out BK370.out (by decide))) (fun _ h_ => h_.1))) hb); replace HO364 := Aside0.mk (Kd.R_elder' (by (with_reducible repeat (first | apply Kd.R_alloc | apply Kd.R_drewN | apply Kd.R_drew)); exact (Kd.R_mono (rf2_ (Kd.R_types HO364.out BK370.out (by decide))) (fun _ h_ => h_.1))) (Kd.R_base ho0) hb); replace HO369 := Aside0.mk (rB4 (by (with_reducible repeat (first | apply Kd.R_alloc | apply Kd.R_drewN | apply Kd.R_drew)); exact (Kd.R_mono (rf2_ (Kd.R_types HO369.out BK370.out (by decide))) (fun _ h_ => h_.1))) hb); replace BK355 := kf_ BK355 hb; replace BK370 := Aside0.mk (blk_below (g := gb370) (o := .cells #[.int .i64 t366, .slice Ao111 t367.length co111] 25 (0, 0)) (np_ BK370.out) hb); replace HB := kB_ HB hb; (try clear hb); (try clear hb2); (try clear hk); (try clear hi); (try clear ho0); obtain ⟨hcz113_0, hcz113_1, hfz113_0, hfz113_1⟩ := cz2_ BK370.out; obtain ⟨Ao114, co114, eo114⟩ := Kd.R_slice HO373.out; subst eo114) | ((with_reducible refine gate_callee (f := 14) rfl ?_); refine gl_ (some 31) Try.func14 #[.agg #[.int .i64 t366, .slice Ao111 t367.length co111], .slice Ao114 t371.length co114] ?_; (with_reducible refine (impl_TurnsOk.calls k t366 _ _ t367 _ _ t371 t374 _ ?side1 ?side2 ?side3 ?side4 A18.out).mono ?_); (case side1 => exact nc_ (rR4 HO369.out).2.2); (case side2 => exact (rR4 HO369.out).2.1); (case side3 => exact nc_ (rR4 HO373.out).2.2); (case side4 => exact (rR4 HO373.out).2.1); rintro e w115 ⟨rfl, hb⟩; refine ⟨_, rfl, ?_⟩; replace HO361 := kR_ HO361 hb; replace HO364 := kR_ HO364 hb; replace HO369 := kR_ HO369 hb; replace HO373 := kR_ HO373 hb; replace BK355 := kb_ BK355 hb; replace BK370 := kb_ BK370 hb; replace HB := kB_ HB hb; (try clear hb); (try clear hb2); (try clear hk); (try clear hi)))
   have n0_ := Aside0.mk (Kd.R_drew HO361.out)
   have n1_ := Aside0.mk (Kd.R_drew HO364.out)
   have n2_ := Aside0.mk (Kd.R_drew HO369.out)
   have n3_ := Aside0.mk (Kd.R_drew HO373.out)
   have n4_ := Aside0.mk (blk_drew BK355.out)
   have n5_ := Aside0.mk (blk_drew BK370.out)
   have n6_ := Aside0.mk (below_drew1 HB.out)
   clear HO361
   clear HO364
   clear HO369
   clear HO373
   clear BK355
   clear BK370
   clear HB
   have HO361 := n0_
   have HO364 := n1_
   have HO369 := n2_
   have HO373 := n3_
   have BK355 := n4_
   have BK370 := n5_
   have HB := n6_
   clear n0_ n1_ n2_ n3_ n4_ n5_ n6_
   refine start_ (n := 5) (S := fun w' => w'.cell? ⟨gb370, 0, none⟩ = some (.int .i64 t366) ∧ w'.cell? ⟨gb370, 1, none⟩ = some (.slice Ao111 t367.length co111) ∧ w'.cell? ⟨gb355, 0, none⟩ = some (.int .i64 a0_0) ∧ w'.cell? ⟨gb355, 1, none⟩ = some (.slice A0_1 l0_1.length c0_1)) (ds := []) #[false, false, false, false, false] (by kernel_rfl) rfl rfl ⟨(blk_cell BK370.out 0).trans rfl, (blk_cell BK370.out 1).trans rfl, (blk_cell BK355.out 0).trans rfl, (blk_cell BK355.out 1).trans rfl⟩ (fun hHeld => ?_)
   generalize w115.drew = w116 at HO361 HO364 HO369 HO373 BK355 BK370 HB hHeld ⊢
   refine take_ (i := 0) (N := some 35) (v := ?_) (a' := ?_) #[true, false, false, false, false] rfl rfl (by kernel_rfl) (fun _ _ _ h => h) (Or.inl ⟨by rfl, ?_⟩) hHeld ?_ ?_
   rotate_left
   ·rintro w' ⟨s0, s1, s2, s3⟩
    go_simp
    with_reducible rfl
   rotate_left
   ·simp only [Act.put, List.setIfInBounds_toArray, List.set_cons_zero, List.set_cons_succ, i64_w, i32_w]
    rfl
   refine take_ (i := 1) (N := some 36) (v := ?_) (a' := ?_) #[true, true, false, false, false] rfl rfl (by kernel_rfl) (fun _ _ _ h => h) (Or.inl ⟨by rfl, ?_⟩) hHeld ?_ ?_
   rotate_left
   ·rintro w' ⟨s0, s1, s2, s3⟩
    go_simp
    with_reducible rfl
   rotate_left
   ·simp only [Act.put, List.setIfInBounds_toArray, List.set_cons_zero, List.set_cons_succ, i64_w, i32_w]
    rfl
   refine one_ (i := 2) (N := some 37) #[true, true, true, false, false] rfl rfl (by kernel_rfl) (by decide) (fun K hK => ?_)
   refine goes_ Try.func18 (by kernel_rfl) rfl #[.agg #[.int .i64 a0_0, .slice A0_1 l0_1.length c0_1]] (by rfl) rfl rfl na_ ?_
   with_reducible refine (laws_toNet.calls k a0_0 _ _ l0_1 t375 t376 _ ?side1 ?side2 A39.out).mono ?_
   (case side1 => exact nc_ (Kd.C_below HR0_1.out HB.out))
   (case side2 => exact HC0_1.out)
   rintro e w117 ⟨v377, rfl, ho0, hb⟩
   refine ⟨_, rfl, ?_⟩
   have n0_ := Aside0.mk (Kd.R_elder' (nr_ HO361.out) (Kd.R_base ho0) hb)
   have n1_ := Aside0.mk (rB4 (nr_ HO364.out) hb)
   have n2_ := Aside0.mk (Kd.R_elder' (nr_ HO369.out) (Kd.R_base ho0) hb)
   have n3_ := Aside0.mk (rB4 (nr_ HO373.out) hb)
   have n4_ := Aside0.mk (Kd.R_lower (Kd.R_new' (Kd.R_new' ho0 (Kd.R_lt (nr_ HO361.out))) (Kd.R_lt (nr_ HO369.out))) (below_size (ne_ HB.out)))
   have n5_ := Aside0.mk (blk_below (g := gb355) (o := .cells #[.int .i64 a0_0, .slice A0_1 l0_1.length c0_1] 37 (0, 0)) (nb_ BK355.out) hb)
   have n6_ := Aside0.mk (blk_below (g := gb370) (o := .cells #[.int .i64 t366, .slice Ao111 t367.length co111] 25 (0, 0)) (nb_ BK370.out) hb)
   have n7_ := Aside0.mk (below_step (ne_ HB.out) hb)
   clear HO361
   clear HO364
   clear HO369
   clear HO373
   clear BK355
   clear BK370
   clear HB
   have HO361 := n0_
   have HO364 := n1_
   have HO369 := n2_
   have HO373 := n3_
   have HO378 := n4_
   have BK355 := n5_
   have BK370 := n6_
   have HB := n7_
   clear n0_ n1_ n2_ n3_ n4_ n5_ n6_ n7_
   (try clear hb)
   (try clear hb2)
   (try clear hk)
   (try clear hi)
   (try clear ho0)
   obtain ⟨Ao118, co118, eo118⟩ := Kd.R_slice HO378.out
   (first | subst eo118 | (injection eo118 with f1_ f2_ f3_; have f4_ := f1_.symm; have f5_ := f3_.symm; clear f1_ f2_ f3_; subst f4_; subst f5_))
   refine hK.out _ _ ⟨(blk_cell BK370.out 0).trans rfl, (blk_cell BK370.out 1).trans rfl, (blk_cell BK355.out 0).trans rfl, (blk_cell BK355.out 1).trans rfl⟩ (fun hHeld => ?_)
   clear hK K
   refine norm_ (a' := ?_) ?_ ?_
   rotate_left
   ·show Act.put _ (some 37) _ = _
    simp only [Act.put, List.setIfInBounds_toArray, List.set_cons_zero, List.set_cons_succ, i64_w, i32_w]
    rfl
   refine one_ (i := 3) (N := some 38) #[true, true, true, true, false] rfl rfl (by kernel_rfl) (by decide) (fun K hK => ?_)
   refine goes_ Try.func20 (by kernel_rfl) rfl #[.agg #[.int .i64 t366, .slice Ao111 t367.length co111], .agg #[.int .i64 t375, .slice Ao118 t376.length co118]] (by rfl) rfl rfl na_ ?_
   with_reducible refine (laws_eqNet.calls k t366 _ _ t367 t375 _ _ t376 false _ ?side1 ?side2 ?side3 ?side4 A40.out).mono ?_
   (case side1 => exact nc_ (rR4 HO369.out).2.2)
   (case side2 => exact (rR4 HO369.out).2.1)
   (case side3 => exact nc_ (rR4 HO378.out).2.2)
   (case side4 => exact (rR4 HO378.out).2.1)
   rintro e w119 ⟨rfl, hb⟩
   refine ⟨_, rfl, ?_⟩
   have n0_ := Aside0.mk (rB4 (nr_ HO361.out) hb)
   have n1_ := Aside0.mk (rB4 (nr_ HO364.out) hb)
   have n2_ := Aside0.mk (rB4 (nr_ HO369.out) hb)
   have n3_ := Aside0.mk (rB4 (nr_ HO373.out) hb)
   have n4_ := Aside0.mk (rB4 (nr_ HO378.out) hb)
   have n5_ := Aside0.mk (blk_below (g := gb355) (o := .cells #[.int .i64 a0_0, .slice A0_1 l0_1.length c0_1] 37 (0, 0)) (nb_ BK355.out) hb)
   have n6_ := Aside0.mk (blk_below (g := gb370) (o := .cells #[.int .i64 t366, .slice Ao111 t367.length co111] 25 (0, 0)) (nb_ BK370.out) hb)
   have n7_ := Aside0.mk (below_step (ne_ HB.out) hb)
   clear HO361
   clear HO364
   clear HO369
   clear HO373
   clear HO378
   clear BK355
   clear BK370
   clear HB
   have HO361 := n0_
   have HO364 := n1_
   have HO369 := n2_
   have HO373 := n3_
   have HO378 := n4_
   have BK355 := n5_
   have BK370 := n6_
   have HB := n7_
   clear n0_ n1_ n2_ n3_ n4_ n5_ n6_ n7_
   (try clear hb)
   (try clear hb2)
   (try clear hk)
   (try clear hi)
   refine hK.out _ _ ⟨(blk_cell BK370.out 0).trans rfl, (blk_cell BK370.out 1).trans rfl, (blk_cell BK355.out 0).trans rfl, (blk_cell BK355.out 1).trans rfl⟩ (fun hHeld => ?_)
   clear hK K
   refine norm_ (a' := ?_) ?_ ?_
   rotate_left
   ·show Act.put _ (some 38) _ = _
    simp only [Act.put, List.setIfInBounds_toArray, List.set_cons_zero, List.set_cons_succ, i64_w, i32_w]
    rfl
   refine pure_ (i := 4) (N := some 39) (v := ?_) (a' := ?_) #[true, true, true, true, true] rfl rfl (by kernel_rfl) (fun _ _ _ h => h) (Or.inl ⟨by rfl, ?_⟩) ?_ ?_
   rotate_left
   ·intro w'
    go_simp
    with_reducible rfl
   rotate_left
   ·simp only [Act.put, List.setIfInBounds_toArray, List.set_cons_zero, List.set_cons_succ, i64_w, i32_w]
    rfl
   refine done_ (by kernel_rfl) ?_
   try go_wp2
   go_ret
   exact ⟨nw_, ne_ HB.out⟩

  subst c41
  have H1 : ((laws_toTurnS.f k l1).bind fun t380 => ((laws_eqTurnS.f k t371 t380).bind fun t383 => (if t383 = true then (some true) else (some false)))) = some r := by rw [if_pos rfl] at H; exact H
  clear H
  have H := H1
  clear H1
  replace H := Option.bind_eq_some_iff.mp H
  obtain ⟨t380, A420, H⟩ := H
  replace H : ((laws_eqTurnS.f k t371 t380).bind fun t383 => (if t383 = true then (some true) else (some false))) = some r := H
  have A42 := Aside0.mk A420
  clear A420
  replace H := Option.bind_eq_some_iff.mp H
  obtain ⟨t383, A430, H⟩ := H
  replace H : (if t383 = true then (some true) else (some false)) = some r := H
  have A43 := Aside0.mk A430
  clear A430
  by_cases c44 : t383 = true
  ·subst c44
   have H1 : (some true) = some r := by rw [if_pos rfl] at H; exact H
   clear H
   have H := H1
   clear H1
   obtain rfl := Option.some.inj H
   go_enter Try.func4, Try.ntmps4
   try go_wp2_with (first | ((with_reducible refine gate_dst (N := 2) rfl ?_); refine bx_ 2 #[.int .i64 a0_0, .slice A0_1 l0_1.length c0_1] 37 ?_; intro gb355 hg w45 hbox hb; have BK355 := Aside0.mk (hbox); have GW355 := Aside0.mk (zs_ hg (ne_ HB.out)); have GE355 := Aside0.mk (zs_ hg (ne_ HB.out)); replace HB := kB_ HB hb; clear hb hbox hg; obtain ⟨hcz46_0, hcz46_1, hfz46_0, hfz46_1⟩ := cz2_ BK355.out) | ((with_reducible refine gate_callee (f := 16) rfl ?_); refine gl_ (some 12) Try.func16 #[.agg #[.int .i64 a0_0, .slice A0_1 l0_1.length c0_1], .int .i64 1048576] ?_; (with_reducible refine (laws_szNet.calls a0_0 _ _ l0_1 1048576 t356 _ ?side1 ?side2 A3.out).mono ?_); (case side1 => exact nc_ (Kd.C_below HR0_1.out HB.out)); (case side2 => exact HC0_1.out); rintro e w47 ⟨rfl, hb⟩; refine ⟨_, rfl, ?_⟩; replace BK355 := kb_ BK355 hb; replace HB := kB_ HB hb; (try clear hb); (try clear hb2); (try clear hk); (try clear hi)) | ((with_reducible refine gate_callee (f := 17) rfl ?_); refine gl_ (some 17) Try.func17 #[.slice A1 l1.length c1, .int .i64 t356] ?_; (with_reducible refine (laws_szTurnS.calls _ _ l1 t356 t357 _ ?side1 ?side2 A8.out).mono ?_); (case side1 => exact nc_ (Kd.C_below HR1.out HB.out)); (case side2 => exact HC1.out); rintro e w' ⟨rfl, ⟨nd, rfl⟩⟩; refine ⟨_, rfl, ?_⟩; (first | (rw [drewN_self w47]; generalize hq_ : World.drewN w47 _ = w47; replace BK355 : Aside0 (w47.heap[gb355]? = some (.cells #[.int .i64 a0_0, .slice A0_1 l0_1.length c0_1] 37 (0, 0))) := ⟨by rw [← hq_]; exact (nb_ BK355.out)⟩; replace HB : Aside0 (Below w.heap.size w w47) := ⟨by rw [← hq_]; exact (ne_ HB.out)⟩; clear hq_) | (have n0_ : Aside0 (w47.heap[gb355]? = some (.cells #[.int .i64 a0_0, .slice A0_1 l0_1.length c0_1] 37 (0, 0))) := ⟨(nb_ BK355.out)⟩; have n1_ : Aside0 (Below w.heap.size w w47) := ⟨(ne_ HB.out)⟩; clear BK355 HB; have BK355 := n0_; have HB := n1_; clear n0_ n1_)); obtain ⟨hcz48_0, hcz48_1, hfz48_0, hfz48_1⟩ := cz2_ BK355.out) | ((with_reducible refine gate_callee (f := 18) rfl ?_); refine gl_ (some 21) Try.func18 #[.agg #[.int .i64 a0_0, .slice A0_1 l0_1.length c0_1]] ?_; (with_reducible refine (laws_toNet.calls k a0_0 _ _ l0_1 t358 t359 _ ?side1 ?side2 A13.out).mono ?_); (case side1 => exact nc_ (Kd.C_below HR0_1.out HB.out)); (case side2 => exact HC0_1.out); rintro e w49 ⟨v360, rfl, ho0, hb⟩; refine ⟨_, rfl, ?_⟩; have HO361 := Aside0.mk (Kd.R_lower ho0 (below_size (ne_ HB.out))); replace BK355 := kb_ BK355 hb; replace HB := kB_ HB hb; (try clear hb); (try clear hb2); (try clear hk); (try clear hi); (try clear ho0)) | ((with_reducible refine gate_callee (f := 19) rfl ?_); refine gl_ (some 23) Try.func19 #[.slice A1 l1.length c1] ?_; (with_reducible refine (laws_toTurnS.calls k _ _ l1 t362 _ ?side1 ?side2 A14.out).mono ?_); (case side1 => exact nc_ (Kd.C_below HR1.out HB.out)); (case side2 => exact HC1.out); rintro e w50 ⟨v363, rfl, ho0, hb⟩; refine ⟨_, rfl, ?_⟩; have HO364 := Aside0.mk (Kd.R_lower ho0 (below_size (ne_ HB.out))); replace HO361 := kR_ HO361 hb; replace BK355 := kb_ BK355 hb; replace HB := kB_ HB hb; (try clear hb); (try clear hb2); (try clear hk); (try clear hi); (try clear ho0); obtain ⟨Ao51, co51, eo51⟩ := Kd.R_slice HO361.out; subst eo51; obtain ⟨Ao52, co52, eo52⟩ := Kd.R_slice HO364.out; subst eo52) | ((with_reducible refine gate_callee (f := 15) rfl ?_); refine gl_ (some 24) Try.func15 #[.agg #[.int .i64 t358, .slice Ao51 t359.length co51], .slice Ao52 t362.length co52] ?_; (with_reducible refine (spec_TurnsOk.calls k t358 _ _ t359 _ _ t362 t365 _ ?side1 ?side2 ?side3 ?side4 A15.out).mono ?_); (case side1 => exact nc_ (rR4 HO361.out).2.2); (case side2 => exact (rR4 HO361.out).2.1); (case side3 => exact nc_ (rR4 HO364.out).2.2); (case side4 => exact (rR4 HO364.out).2.1); rintro e w53 ⟨rfl, hb⟩; refine ⟨_, rfl, ?_⟩; replace HO361 := kR_ HO361 hb; replace HO364 := kR_ HO364 hb; replace BK355 := kb_ BK355 hb; replace HB := kB_ HB hb; (try clear hb); (try clear hb2); (try clear hk); (try clear hi); obtain ⟨hcz54_0, hcz54_1, hfz54_0, hfz54_1⟩ := cz2_ BK355.out) | ((with_reducible refine gate_callee (f := 18) rfl ?_); refine gl_ (some 26) Try.func18 #[.agg #[.int .i64 a0_0, .slice A0_1 l0_1.length c0_1]] ?_; (with_reducible refine (laws_toNet.calls k a0_0 _ _ l0_1 t366 t367 _ ?side1 ?side2 A16.out).mono ?_); (case side1 => exact nc_ (Kd.C_below HR0_1.out HB.out)); (case side2 => exact HC0_1.out); rintro e w55 ⟨v368, rfl, ho0, hb⟩; refine ⟨_, rfl, ?_⟩; have HO369 := Aside0.mk (Kd.R_lower (Kd.R_new' ho0 (Kd.R_lt (nr_ HO361.out))) (below_size (ne_ HB.out))); replace HO361 := Aside0.mk (Kd.R_elder' (nr_ HO361.out) (Kd.R_base ho0) hb); replace HO364 := kR_ HO364 hb; replace BK355 := kb_ BK355 hb; replace HB := kB_ HB hb; (try clear hb); (try clear hb2); (try clear hk); (try clear hi); (try clear ho0)) | ((with_reducible refine gate_dst (N := 7) rfl ?_); refine bx_ 7 #[.int .i64 0, .slice none 0 0] 25 ?_; intro gb370 hg w56 hbox hb; have BK370 := Aside0.mk (hbox); have GW370 := Aside0.mk (zs_ hg (ne_ HB.out)); have GE370 := Aside0.mk (zs_ hg (ne_ HB.out)); have NB355_370 := Aside0.mk (nl_ BK355.out hg); have NB370_355 := Aside0.mk (nm_ BK355.out hg); replace HO361 := kR_ HO361 hb; replace HO364 := kR_ HO364 hb; replace HO369 := kR_ HO369 hb; replace BK355 := kb_ BK355 hb; replace HB := kB_ HB hb; clear hb hbox hg; have hnb57 := NB370_355.out; have hnc57 := NB355_370.out; obtain ⟨hcz58_0, hcz58_1, hfz58_0, hfz58_1⟩ := cz2_ BK370.out; obtain ⟨Ao59, co59, eo59⟩ := Kd.R_slice HO369.out; subst eo59) | ((with_reducible refine gate_callee (f := 19) rfl ?_); refine gl_ (some 28) Try.func19 #[.slice A1 l1.length c1] ?_; (with_reducible refine (laws_toTurnS.calls k _ _ l1 t371 _ ?side1 ?side2 A17.out).mono ?_); (case side1 => exact Kd.C_below HR1.out (ne_ HB.out)); (case side2 => exact HC1.out); rintro e w60 ⟨v372, rfl, ho0, hb⟩; refine ⟨_, rfl, ?_⟩; have HO373 := Aside0.mk (Kd.R_lower (Kd.R_new' ho0 (Kd.R_lt (by (with_reducible repeat (first | apply Kd.R_alloc | apply Kd.R_drewN | apply Kd.R_drew)); exact (Kd.R_mono (rf2_ (Kd.R_types HO364.out BK370.out (by decide))) (fun _ h_ => h_.1))))) (below_size (ne_ HB.out))); replace HO361 := Aside0.mk (rB4 (by (with_reducible repeat (first | apply Kd.R_alloc | apply Kd.R_drewN | apply Kd.R_drew)); exact (Kd.R_mono (rf2_ (Kd.R_types HO361.out BK370.out (by decide))) (fun _ h_ => h_.1))) hb); replace HO364 := Aside0.mk (Kd.R_elder' (by (with_reducible repeat (first | apply Kd.R_alloc | apply Kd.R_drewN | apply Kd.R_drew)); exact (Kd.R_mono (rf2_ (Kd.R_types HO364.out BK370.out (by decide))) (fun _ h_ => h_.1))) (Kd.R_base ho0) hb); replace HO369 := Aside0.mk (rB4 (by (with_reducible repeat (first | apply Kd.R_alloc | apply Kd.R_drewN | apply Kd.R_drew)); exact (Kd.R_mono (rf2_ (Kd.R_types HO369.out BK370.out (by decide))) (fun _ h_ => h_.1))) hb); replace BK355 := kf_ BK355 hb; replace BK370 := Aside0.mk (blk_below (g := gb370) (o := .cells #[.int .i64 t366, .slice Ao59 t367.length co59] 25 (0, 0)) (np_ BK370.out) hb); replace HB := kB_ HB hb; (try clear hb); (try clear hb2); (try clear hk); (try clear hi); (try clear ho0); obtain ⟨hcz61_0, hcz61_1, hfz61_0, hfz61_1⟩ := cz2_ BK370.out; obtain ⟨Ao62, co62, eo62⟩ := Kd.R_slice HO373.out; subst eo62) | ((with_reducible refine gate_callee (f := 14) rfl ?_); refine gl_ (some 31) Try.func14 #[.agg #[.int .i64 t366, .slice Ao59 t367.length co59], .slice Ao62 t371.length co62] ?_; (with_reducible refine (impl_TurnsOk.calls k t366 _ _ t367 _ _ t371 t374 _ ?side1 ?side2 ?side3 ?side4 A18.out).mono ?_); (case side1 => exact nc_ (rR4 HO369.out).2.2); (case side2 => exact (rR4 HO369.out).2.1); (case side3 => exact nc_ (rR4 HO373.out).2.2); (case side4 => exact (rR4 HO373.out).2.1); rintro e w63 ⟨rfl, hb⟩; refine ⟨_, rfl, ?_⟩; replace HO361 := kR_ HO361 hb; replace HO364 := kR_ HO364 hb; replace HO369 := kR_ HO369 hb; replace HO373 := kR_ HO373 hb; replace BK355 := kb_ BK355 hb; replace BK370 := kb_ BK370 hb; replace HB := kB_ HB hb; (try clear hb); (try clear hb2); (try clear hk); (try clear hi)))
   have n0_ := Aside0.mk (Kd.R_drew HO361.out)
   have n1_ := Aside0.mk (Kd.R_drew HO364.out)
   have n2_ := Aside0.mk (Kd.R_drew HO369.out)
   have n3_ := Aside0.mk (Kd.R_drew HO373.out)
   have n4_ := Aside0.mk (blk_drew BK355.out)
   have n5_ := Aside0.mk (blk_drew BK370.out)
   have n6_ := Aside0.mk (below_drew1 HB.out)
   clear HO361
   clear HO364
   clear HO369
   clear HO373
   clear BK355
   clear BK370
   clear HB
   have HO361 := n0_
   have HO364 := n1_
   have HO369 := n2_
   have HO373 := n3_
   have BK355 := n4_
   have BK370 := n5_
   have HB := n6_
   clear n0_ n1_ n2_ n3_ n4_ n5_ n6_
   refine start_ (n := 5) (S := fun w' => w'.cell? ⟨gb370, 0, none⟩ = some (.int .i64 t366) ∧ w'.cell? ⟨gb370, 1, none⟩ = some (.slice Ao59 t367.length co59) ∧ w'.cell? ⟨gb355, 0, none⟩ = some (.int .i64 a0_0) ∧ w'.cell? ⟨gb355, 1, none⟩ = some (.slice A0_1 l0_1.length c0_1)) (ds := []) #[false, false, false, false, false] (by kernel_rfl) rfl rfl ⟨(blk_cell BK370.out 0).trans rfl, (blk_cell BK370.out 1).trans rfl, (blk_cell BK355.out 0).trans rfl, (blk_cell BK355.out 1).trans rfl⟩ (fun hHeld => ?_)
   generalize w63.drew = w64 at HO361 HO364 HO369 HO373 BK355 BK370 HB hHeld ⊢
   refine take_ (i := 0) (N := some 35) (v := ?_) (a' := ?_) #[true, false, false, false, false] rfl rfl (by kernel_rfl) (fun _ _ _ h => h) (Or.inl ⟨by rfl, ?_⟩) hHeld ?_ ?_
   rotate_left
   ·rintro w' ⟨s0, s1, s2, s3⟩
    go_simp
    with_reducible rfl
   rotate_left
   ·simp only [Act.put, List.setIfInBounds_toArray, List.set_cons_zero, List.set_cons_succ, i64_w, i32_w]
    rfl
   refine take_ (i := 1) (N := some 36) (v := ?_) (a' := ?_) #[true, true, false, false, false] rfl rfl (by kernel_rfl) (fun _ _ _ h => h) (Or.inl ⟨by rfl, ?_⟩) hHeld ?_ ?_
   rotate_left
   ·rintro w' ⟨s0, s1, s2, s3⟩
    go_simp
    with_reducible rfl
   rotate_left
   ·simp only [Act.put, List.setIfInBounds_toArray, List.set_cons_zero, List.set_cons_succ, i64_w, i32_w]
    rfl
   refine one_ (i := 2) (N := some 37) #[true, true, true, false, false] rfl rfl (by kernel_rfl) (by decide) (fun K hK => ?_)
   refine goes_ Try.func18 (by kernel_rfl) rfl #[.agg #[.int .i64 a0_0, .slice A0_1 l0_1.length c0_1]] (by rfl) rfl rfl na_ ?_
   with_reducible refine (laws_toNet.calls k a0_0 _ _ l0_1 t375 t376 _ ?side1 ?side2 A39.out).mono ?_
   (case side1 => exact nc_ (Kd.C_below HR0_1.out HB.out))
   (case side2 => exact HC0_1.out)
   rintro e w65 ⟨v377, rfl, ho0, hb⟩
   refine ⟨_, rfl, ?_⟩
   have n0_ := Aside0.mk (Kd.R_elder' (nr_ HO361.out) (Kd.R_base ho0) hb)
   have n1_ := Aside0.mk (rB4 (nr_ HO364.out) hb)
   have n2_ := Aside0.mk (Kd.R_elder' (nr_ HO369.out) (Kd.R_base ho0) hb)
   have n3_ := Aside0.mk (rB4 (nr_ HO373.out) hb)
   have n4_ := Aside0.mk (Kd.R_lower (Kd.R_new' (Kd.R_new' ho0 (Kd.R_lt (nr_ HO361.out))) (Kd.R_lt (nr_ HO369.out))) (below_size (ne_ HB.out)))
   have n5_ := Aside0.mk (blk_below (g := gb355) (o := .cells #[.int .i64 a0_0, .slice A0_1 l0_1.length c0_1] 37 (0, 0)) (nb_ BK355.out) hb)
   have n6_ := Aside0.mk (blk_below (g := gb370) (o := .cells #[.int .i64 t366, .slice Ao59 t367.length co59] 25 (0, 0)) (nb_ BK370.out) hb)
   have n7_ := Aside0.mk (below_step (ne_ HB.out) hb)
   clear HO361
   clear HO364
   clear HO369
   clear HO373
   clear BK355
   clear BK370
   clear HB
   have HO361 := n0_
   have HO364 := n1_
   have HO369 := n2_
   have HO373 := n3_
   have HO378 := n4_
   have BK355 := n5_
   have BK370 := n6_
   have HB := n7_
   clear n0_ n1_ n2_ n3_ n4_ n5_ n6_ n7_
   (try clear hb)
   (try clear hb2)
   (try clear hk)
   (try clear hi)
   (try clear ho0)
   obtain ⟨Ao66, co66, eo66⟩ := Kd.R_slice HO378.out
   (first | subst eo66 | (injection eo66 with f1_ f2_ f3_; have f4_ := f1_.symm; have f5_ := f3_.symm; clear f1_ f2_ f3_; subst f4_; subst f5_))
   refine hK.out _ _ ⟨(blk_cell BK370.out 0).trans rfl, (blk_cell BK370.out 1).trans rfl, (blk_cell BK355.out 0).trans rfl, (blk_cell BK355.out 1).trans rfl⟩ (fun hHeld => ?_)
   clear hK K
   refine norm_ (a' := ?_) ?_ ?_
   rotate_left
   ·show Act.put _ (some 37) _ = _
    simp only [Act.put, List.setIfInBounds_toArray, List.set_cons_zero, List.set_cons_succ, i64_w, i32_w]
    rfl
   refine one_ (i := 3) (N := some 38) #[true, true, true, true, false] rfl rfl (by kernel_rfl) (by decide) (fun K hK => ?_)
   refine goes_ Try.func20 (by kernel_rfl) rfl #[.agg #[.int .i64 t366, .slice Ao59 t367.length co59], .agg #[.int .i64 t375, .slice Ao66 t376.length co66]] (by rfl) rfl rfl na_ ?_
   with_reducible refine (laws_eqNet.calls k t366 _ _ t367 t375 _ _ t376 true _ ?side1 ?side2 ?side3 ?side4 A40.out).mono ?_
   (case side1 => exact nc_ (rR4 HO369.out).2.2)
   (case side2 => exact (rR4 HO369.out).2.1)
   (case side3 => exact nc_ (rR4 HO378.out).2.2)
   (case side4 => exact (rR4 HO378.out).2.1)
   rintro e w67 ⟨rfl, hb⟩
   refine ⟨_, rfl, ?_⟩
   have n0_ := Aside0.mk (rB4 (nr_ HO361.out) hb)
   have n1_ := Aside0.mk (rB4 (nr_ HO364.out) hb)
   have n2_ := Aside0.mk (rB4 (nr_ HO369.out) hb)
   have n3_ := Aside0.mk (rB4 (nr_ HO373.out) hb)
   have n4_ := Aside0.mk (rB4 (nr_ HO378.out) hb)
   have n5_ := Aside0.mk (blk_below (g := gb355) (o := .cells #[.int .i64 a0_0, .slice A0_1 l0_1.length c0_1] 37 (0, 0)) (nb_ BK355.out) hb)
   have n6_ := Aside0.mk (blk_below (g := gb370) (o := .cells #[.int .i64 t366, .slice Ao59 t367.length co59] 25 (0, 0)) (nb_ BK370.out) hb)
   have n7_ := Aside0.mk (below_step (ne_ HB.out) hb)
   clear HO361
   clear HO364
   clear HO369
   clear HO373
   clear HO378
   clear BK355
   clear BK370
   clear HB
   have HO361 := n0_
   have HO364 := n1_
   have HO369 := n2_
   have HO373 := n3_
   have HO378 := n4_
   have BK355 := n5_
   have BK370 := n6_
   have HB := n7_
   clear n0_ n1_ n2_ n3_ n4_ n5_ n6_ n7_
   (try clear hb)
   (try clear hb2)
   (try clear hk)
   (try clear hi)
   refine hK.out _ _ ⟨(blk_cell BK370.out 0).trans rfl, (blk_cell BK370.out 1).trans rfl, (blk_cell BK355.out 0).trans rfl, (blk_cell BK355.out 1).trans rfl⟩ (fun hHeld => ?_)
   clear hK K
   refine norm_ (a' := ?_) ?_ ?_
   rotate_left
   ·show Act.put _ (some 38) _ = _
    simp only [Act.put, List.setIfInBounds_toArray, List.set_cons_zero, List.set_cons_succ, i64_w, i32_w]
    rfl
   refine pure_ (i := 4) (N := some 39) (v := ?_) (a' := ?_) #[true, true, true, true, true] rfl rfl (by kernel_rfl) (fun _ _ _ h => h) (Or.inl ⟨by rfl, ?_⟩) ?_ ?_
   rotate_left
   ·intro w'
    go_simp
    with_reducible rfl
   rotate_left
   ·simp only [Act.put, List.setIfInBounds_toArray, List.set_cons_zero, List.set_cons_succ, i64_w, i32_w]
    rfl
   refine done_ (by kernel_rfl) ?_
   try go_wp2_with (first | ((with_reducible refine gate_callee (f := 19) rfl ?_); refine gl_ (some 42) Try.func19 #[.slice A1 l1.length c1] ?_; (with_reducible refine (laws_toTurnS.calls k _ _ l1 t380 _ ?side1 ?side2 A42.out).mono ?_); (case side1 => exact nc_ (Kd.C_below HR1.out HB.out)); (case side2 => exact HC1.out); rintro e w68 ⟨v381, rfl, ho0, hb⟩; refine ⟨_, rfl, ?_⟩; have HO382 := Aside0.mk (Kd.R_lower (Kd.R_new' (Kd.R_new' ho0 (Kd.R_lt (nr_ HO364.out))) (Kd.R_lt (nr_ HO373.out))) (below_size (ne_ HB.out))); replace HO361 := kR_ HO361 hb; replace HO364 := Aside0.mk (Kd.R_elder' (nr_ HO364.out) (Kd.R_base ho0) hb); replace HO369 := kR_ HO369 hb; replace HO373 := Aside0.mk (Kd.R_elder' (nr_ HO373.out) (Kd.R_base ho0) hb); replace HO378 := kR_ HO378 hb; replace BK355 := kb_ BK355 hb; replace BK370 := kb_ BK370 hb; replace HB := kB_ HB hb; (try clear hb); (try clear hb2); (try clear hk); (try clear hi); (try clear ho0); obtain ⟨Ao69, co69, eo69⟩ := Kd.R_slice HO382.out; subst eo69) | ((with_reducible refine gate_callee (f := 21) rfl ?_); refine gl_ (some 43) Try.func21 #[.slice Ao62 t371.length co62, .slice Ao69 t380.length co69] ?_; (with_reducible refine (laws_eqTurnS.calls k _ _ t371 _ _ t380 true _ ?side1 ?side2 ?side3 ?side4 A43.out).mono ?_); (case side1 => exact nc_ (rR4 HO373.out).2.2); (case side2 => exact (rR4 HO373.out).2.1); (case side3 => exact nc_ (rR4 HO382.out).2.2); (case side4 => exact (rR4 HO382.out).2.1); rintro e w70 ⟨rfl, hb⟩; refine ⟨_, rfl, ?_⟩; replace HO361 := kR_ HO361 hb; replace HO364 := kR_ HO364 hb; replace HO369 := kR_ HO369 hb; replace HO373 := kR_ HO373 hb; replace HO378 := kR_ HO378 hb; replace HO382 := kR_ HO382 hb; replace BK355 := kb_ BK355 hb; replace BK370 := kb_ BK370 hb; replace HB := kB_ HB hb; (try clear hb); (try clear hb2); (try clear hk); (try clear hi)))
   go_ret
   exact ⟨nw_, ne_ HB.out⟩
  replace c44 := Bool.eq_false_iff.mpr c44
  subst c44
  have H1 : (some false) = some r := by rw [if_neg (show ¬ (false = true) by decide)] at H; exact H
  clear H
  have H := H1
  clear H1
  obtain rfl := Option.some.inj H
  go_enter Try.func4, Try.ntmps4
  try go_wp2_with (first | ((with_reducible refine gate_dst (N := 2) rfl ?_); refine bx_ 2 #[.int .i64 a0_0, .slice A0_1 l0_1.length c0_1] 37 ?_; intro gb355 hg w71 hbox hb; have BK355 := Aside0.mk (hbox); have GW355 := Aside0.mk (zs_ hg (ne_ HB.out)); have GE355 := Aside0.mk (zs_ hg (ne_ HB.out)); replace HB := kB_ HB hb; clear hb hbox hg; obtain ⟨hcz72_0, hcz72_1, hfz72_0, hfz72_1⟩ := cz2_ BK355.out) | ((with_reducible refine gate_callee (f := 16) rfl ?_); refine gl_ (some 12) Try.func16 #[.agg #[.int .i64 a0_0, .slice A0_1 l0_1.length c0_1], .int .i64 1048576] ?_; (with_reducible refine (laws_szNet.calls a0_0 _ _ l0_1 1048576 t356 _ ?side1 ?side2 A3.out).mono ?_); (case side1 => exact nc_ (Kd.C_below HR0_1.out HB.out)); (case side2 => exact HC0_1.out); rintro e w73 ⟨rfl, hb⟩; refine ⟨_, rfl, ?_⟩; replace BK355 := kb_ BK355 hb; replace HB := kB_ HB hb; (try clear hb); (try clear hb2); (try clear hk); (try clear hi)) | ((with_reducible refine gate_callee (f := 17) rfl ?_); refine gl_ (some 17) Try.func17 #[.slice A1 l1.length c1, .int .i64 t356] ?_; (with_reducible refine (laws_szTurnS.calls _ _ l1 t356 t357 _ ?side1 ?side2 A8.out).mono ?_); (case side1 => exact nc_ (Kd.C_below HR1.out HB.out)); (case side2 => exact HC1.out); rintro e w' ⟨rfl, ⟨nd, rfl⟩⟩; refine ⟨_, rfl, ?_⟩; (first | (rw [drewN_self w73]; generalize hq_ : World.drewN w73 _ = w73; replace BK355 : Aside0 (w73.heap[gb355]? = some (.cells #[.int .i64 a0_0, .slice A0_1 l0_1.length c0_1] 37 (0, 0))) := ⟨by rw [← hq_]; exact (nb_ BK355.out)⟩; replace HB : Aside0 (Below w.heap.size w w73) := ⟨by rw [← hq_]; exact (ne_ HB.out)⟩; clear hq_) | (have n0_ : Aside0 (w73.heap[gb355]? = some (.cells #[.int .i64 a0_0, .slice A0_1 l0_1.length c0_1] 37 (0, 0))) := ⟨(nb_ BK355.out)⟩; have n1_ : Aside0 (Below w.heap.size w w73) := ⟨(ne_ HB.out)⟩; clear BK355 HB; have BK355 := n0_; have HB := n1_; clear n0_ n1_)); obtain ⟨hcz74_0, hcz74_1, hfz74_0, hfz74_1⟩ := cz2_ BK355.out) | ((with_reducible refine gate_callee (f := 18) rfl ?_); refine gl_ (some 21) Try.func18 #[.agg #[.int .i64 a0_0, .slice A0_1 l0_1.length c0_1]] ?_; (with_reducible refine (laws_toNet.calls k a0_0 _ _ l0_1 t358 t359 _ ?side1 ?side2 A13.out).mono ?_); (case side1 => exact nc_ (Kd.C_below HR0_1.out HB.out)); (case side2 => exact HC0_1.out); rintro e w75 ⟨v360, rfl, ho0, hb⟩; refine ⟨_, rfl, ?_⟩; have HO361 := Aside0.mk (Kd.R_lower ho0 (below_size (ne_ HB.out))); replace BK355 := kb_ BK355 hb; replace HB := kB_ HB hb; (try clear hb); (try clear hb2); (try clear hk); (try clear hi); (try clear ho0)) | ((with_reducible refine gate_callee (f := 19) rfl ?_); refine gl_ (some 23) Try.func19 #[.slice A1 l1.length c1] ?_; (with_reducible refine (laws_toTurnS.calls k _ _ l1 t362 _ ?side1 ?side2 A14.out).mono ?_); (case side1 => exact nc_ (Kd.C_below HR1.out HB.out)); (case side2 => exact HC1.out); rintro e w76 ⟨v363, rfl, ho0, hb⟩; refine ⟨_, rfl, ?_⟩; have HO364 := Aside0.mk (Kd.R_lower ho0 (below_size (ne_ HB.out))); replace HO361 := kR_ HO361 hb; replace BK355 := kb_ BK355 hb; replace HB := kB_ HB hb; (try clear hb); (try clear hb2); (try clear hk); (try clear hi); (try clear ho0); obtain ⟨Ao77, co77, eo77⟩ := Kd.R_slice HO361.out; subst eo77; obtain ⟨Ao78, co78, eo78⟩ := Kd.R_slice HO364.out; subst eo78) | ((with_reducible refine gate_callee (f := 15) rfl ?_); refine gl_ (some 24) Try.func15 #[.agg #[.int .i64 t358, .slice Ao77 t359.length co77], .slice Ao78 t362.length co78] ?_; (with_reducible refine (spec_TurnsOk.calls k t358 _ _ t359 _ _ t362 t365 _ ?side1 ?side2 ?side3 ?side4 A15.out).mono ?_); (case side1 => exact nc_ (rR4 HO361.out).2.2); (case side2 => exact (rR4 HO361.out).2.1); (case side3 => exact nc_ (rR4 HO364.out).2.2); (case side4 => exact (rR4 HO364.out).2.1); rintro e w79 ⟨rfl, hb⟩; refine ⟨_, rfl, ?_⟩; replace HO361 := kR_ HO361 hb; replace HO364 := kR_ HO364 hb; replace BK355 := kb_ BK355 hb; replace HB := kB_ HB hb; (try clear hb); (try clear hb2); (try clear hk); (try clear hi); obtain ⟨hcz80_0, hcz80_1, hfz80_0, hfz80_1⟩ := cz2_ BK355.out) | ((with_reducible refine gate_callee (f := 18) rfl ?_); refine gl_ (some 26) Try.func18 #[.agg #[.int .i64 a0_0, .slice A0_1 l0_1.length c0_1]] ?_; (with_reducible refine (laws_toNet.calls k a0_0 _ _ l0_1 t366 t367 _ ?side1 ?side2 A16.out).mono ?_); (case side1 => exact nc_ (Kd.C_below HR0_1.out HB.out)); (case side2 => exact HC0_1.out); rintro e w81 ⟨v368, rfl, ho0, hb⟩; refine ⟨_, rfl, ?_⟩; have HO369 := Aside0.mk (Kd.R_lower (Kd.R_new' ho0 (Kd.R_lt (nr_ HO361.out))) (below_size (ne_ HB.out))); replace HO361 := Aside0.mk (Kd.R_elder' (nr_ HO361.out) (Kd.R_base ho0) hb); replace HO364 := kR_ HO364 hb; replace BK355 := kb_ BK355 hb; replace HB := kB_ HB hb; (try clear hb); (try clear hb2); (try clear hk); (try clear hi); (try clear ho0)) | ((with_reducible refine gate_dst (N := 7) rfl ?_); refine bx_ 7 #[.int .i64 0, .slice none 0 0] 25 ?_; intro gb370 hg w82 hbox hb; have BK370 := Aside0.mk (hbox); have GW370 := Aside0.mk (zs_ hg (ne_ HB.out)); have GE370 := Aside0.mk (zs_ hg (ne_ HB.out)); have NB355_370 := Aside0.mk (nl_ BK355.out hg); have NB370_355 := Aside0.mk (nm_ BK355.out hg); replace HO361 := kR_ HO361 hb; replace HO364 := kR_ HO364 hb; replace HO369 := kR_ HO369 hb; replace BK355 := kb_ BK355 hb; replace HB := kB_ HB hb; clear hb hbox hg; have hnb83 := NB370_355.out; have hnc83 := NB355_370.out; obtain ⟨hcz84_0, hcz84_1, hfz84_0, hfz84_1⟩ := cz2_ BK370.out; obtain ⟨Ao85, co85, eo85⟩ := Kd.R_slice HO369.out; subst eo85) | ((with_reducible refine gate_callee (f := 19) rfl ?_); refine gl_ (some 28) Try.func19 #[.slice A1 l1.length c1] ?_; (with_reducible refine (laws_toTurnS.calls k _ _ l1 t371 _ ?side1 ?side2 A17.out).mono ?_); (case side1 => exact Kd.C_below HR1.out (ne_ HB.out)); (case side2 => exact HC1.out); rintro e w86 ⟨v372, rfl, ho0, hb⟩; refine ⟨_, rfl, ?_⟩; have HO373 := Aside0.mk (Kd.R_lower (Kd.R_new' ho0 (Kd.R_lt (by (with_reducible repeat (first | apply Kd.R_alloc | apply Kd.R_drewN | apply Kd.R_drew)); exact (Kd.R_mono (rf2_ (Kd.R_types HO364.out BK370.out (by decide))) (fun _ h_ => h_.1))))) (below_size (ne_ HB.out))); replace HO361 := Aside0.mk (rB4 (by (with_reducible repeat (first | apply Kd.R_alloc | apply Kd.R_drewN | apply Kd.R_drew)); exact (Kd.R_mono (rf2_ (Kd.R_types HO361.out BK370.out (by decide))) (fun _ h_ => h_.1))) hb); replace HO364 := Aside0.mk (Kd.R_elder' (by (with_reducible repeat (first | apply Kd.R_alloc | apply Kd.R_drewN | apply Kd.R_drew)); exact (Kd.R_mono (rf2_ (Kd.R_types HO364.out BK370.out (by decide))) (fun _ h_ => h_.1))) (Kd.R_base ho0) hb); replace HO369 := Aside0.mk (rB4 (by (with_reducible repeat (first | apply Kd.R_alloc | apply Kd.R_drewN | apply Kd.R_drew)); exact (Kd.R_mono (rf2_ (Kd.R_types HO369.out BK370.out (by decide))) (fun _ h_ => h_.1))) hb); replace BK355 := kf_ BK355 hb; replace BK370 := Aside0.mk (blk_below (g := gb370) (o := .cells #[.int .i64 t366, .slice Ao85 t367.length co85] 25 (0, 0)) (np_ BK370.out) hb); replace HB := kB_ HB hb; (try clear hb); (try clear hb2); (try clear hk); (try clear hi); (try clear ho0); obtain ⟨hcz87_0, hcz87_1, hfz87_0, hfz87_1⟩ := cz2_ BK370.out; obtain ⟨Ao88, co88, eo88⟩ := Kd.R_slice HO373.out; subst eo88) | ((with_reducible refine gate_callee (f := 14) rfl ?_); refine gl_ (some 31) Try.func14 #[.agg #[.int .i64 t366, .slice Ao85 t367.length co85], .slice Ao88 t371.length co88] ?_; (with_reducible refine (impl_TurnsOk.calls k t366 _ _ t367 _ _ t371 t374 _ ?side1 ?side2 ?side3 ?side4 A18.out).mono ?_); (case side1 => exact nc_ (rR4 HO369.out).2.2); (case side2 => exact (rR4 HO369.out).2.1); (case side3 => exact nc_ (rR4 HO373.out).2.2); (case side4 => exact (rR4 HO373.out).2.1); rintro e w89 ⟨rfl, hb⟩; refine ⟨_, rfl, ?_⟩; replace HO361 := kR_ HO361 hb; replace HO364 := kR_ HO364 hb; replace HO369 := kR_ HO369 hb; replace HO373 := kR_ HO373 hb; replace BK355 := kb_ BK355 hb; replace BK370 := kb_ BK370 hb; replace HB := kB_ HB hb; (try clear hb); (try clear hb2); (try clear hk); (try clear hi)))
  have n0_ := Aside0.mk (Kd.R_drew HO361.out)
  have n1_ := Aside0.mk (Kd.R_drew HO364.out)
  have n2_ := Aside0.mk (Kd.R_drew HO369.out)
  have n3_ := Aside0.mk (Kd.R_drew HO373.out)
  have n4_ := Aside0.mk (blk_drew BK355.out)
  have n5_ := Aside0.mk (blk_drew BK370.out)
  have n6_ := Aside0.mk (below_drew1 HB.out)
  clear HO361
  clear HO364
  clear HO369
  clear HO373
  clear BK355
  clear BK370
  clear HB
  have HO361 := n0_
  have HO364 := n1_
  have HO369 := n2_
  have HO373 := n3_
  have BK355 := n4_
  have BK370 := n5_
  have HB := n6_
  clear n0_ n1_ n2_ n3_ n4_ n5_ n6_
  refine start_ (n := 5) (S := fun w' => w'.cell? ⟨gb370, 0, none⟩ = some (.int .i64 t366) ∧ w'.cell? ⟨gb370, 1, none⟩ = some (.slice Ao85 t367.length co85) ∧ w'.cell? ⟨gb355, 0, none⟩ = some (.int .i64 a0_0) ∧ w'.cell? ⟨gb355, 1, none⟩ = some (.slice A0_1 l0_1.length c0_1)) (ds := []) #[false, false, false, false, false] (by kernel_rfl) rfl rfl ⟨(blk_cell BK370.out 0).trans rfl, (blk_cell BK370.out 1).trans rfl, (blk_cell BK355.out 0).trans rfl, (blk_cell BK355.out 1).trans rfl⟩ (fun hHeld => ?_)
  generalize w89.drew = w90 at HO361 HO364 HO369 HO373 BK355 BK370 HB hHeld ⊢
  refine take_ (i := 0) (N := some 35) (v := ?_) (a' := ?_) #[true, false, false, false, false] rfl rfl (by kernel_rfl) (fun _ _ _ h => h) (Or.inl ⟨by rfl, ?_⟩) hHeld ?_ ?_
  rotate_left
  ·rintro w' ⟨s0, s1, s2, s3⟩
   go_simp
   with_reducible rfl
  rotate_left
  ·simp only [Act.put, List.setIfInBounds_toArray, List.set_cons_zero, List.set_cons_succ, i64_w, i32_w]
   rfl
  refine take_ (i := 1) (N := some 36) (v := ?_) (a' := ?_) #[true, true, false, false, false] rfl rfl (by kernel_rfl) (fun _ _ _ h => h) (Or.inl ⟨by rfl, ?_⟩) hHeld ?_ ?_
  rotate_left
  ·rintro w' ⟨s0, s1, s2, s3⟩
   go_simp
   with_reducible rfl
  rotate_left
  ·simp only [Act.put, List.setIfInBounds_toArray, List.set_cons_zero, List.set_cons_succ, i64_w, i32_w]
   rfl
  refine one_ (i := 2) (N := some 37) #[true, true, true, false, false] rfl rfl (by kernel_rfl) (by decide) (fun K hK => ?_)
  refine goes_ Try.func18 (by kernel_rfl) rfl #[.agg #[.int .i64 a0_0, .slice A0_1 l0_1.length c0_1]] (by rfl) rfl rfl na_ ?_
  with_reducible refine (laws_toNet.calls k a0_0 _ _ l0_1 t375 t376 _ ?side1 ?side2 A39.out).mono ?_
  (case side1 => exact nc_ (Kd.C_below HR0_1.out HB.out))
  (case side2 => exact HC0_1.out)
  rintro e w91 ⟨v377, rfl, ho0, hb⟩
  refine ⟨_, rfl, ?_⟩
  have n0_ := Aside0.mk (Kd.R_elder' (nr_ HO361.out) (Kd.R_base ho0) hb)
  have n1_ := Aside0.mk (rB4 (nr_ HO364.out) hb)
  have n2_ := Aside0.mk (Kd.R_elder' (nr_ HO369.out) (Kd.R_base ho0) hb)
  have n3_ := Aside0.mk (rB4 (nr_ HO373.out) hb)
  have n4_ := Aside0.mk (Kd.R_lower (Kd.R_new' (Kd.R_new' ho0 (Kd.R_lt (nr_ HO361.out))) (Kd.R_lt (nr_ HO369.out))) (below_size (ne_ HB.out)))
  have n5_ := Aside0.mk (blk_below (g := gb355) (o := .cells #[.int .i64 a0_0, .slice A0_1 l0_1.length c0_1] 37 (0, 0)) (nb_ BK355.out) hb)
  have n6_ := Aside0.mk (blk_below (g := gb370) (o := .cells #[.int .i64 t366, .slice Ao85 t367.length co85] 25 (0, 0)) (nb_ BK370.out) hb)
  have n7_ := Aside0.mk (below_step (ne_ HB.out) hb)
  clear HO361
  clear HO364
  clear HO369
  clear HO373
  clear BK355
  clear BK370
  clear HB
  have HO361 := n0_
  have HO364 := n1_
  have HO369 := n2_
  have HO373 := n3_
  have HO378 := n4_
  have BK355 := n5_
  have BK370 := n6_
  have HB := n7_
  clear n0_ n1_ n2_ n3_ n4_ n5_ n6_ n7_
  (try clear hb)
  (try clear hb2)
  (try clear hk)
  (try clear hi)
  (try clear ho0)
  obtain ⟨Ao92, co92, eo92⟩ := Kd.R_slice HO378.out
  (first | subst eo92 | (injection eo92 with f1_ f2_ f3_; have f4_ := f1_.symm; have f5_ := f3_.symm; clear f1_ f2_ f3_; subst f4_; subst f5_))
  refine hK.out _ _ ⟨(blk_cell BK370.out 0).trans rfl, (blk_cell BK370.out 1).trans rfl, (blk_cell BK355.out 0).trans rfl, (blk_cell BK355.out 1).trans rfl⟩ (fun hHeld => ?_)
  clear hK K
  refine norm_ (a' := ?_) ?_ ?_
  rotate_left
  ·show Act.put _ (some 37) _ = _
   simp only [Act.put, List.setIfInBounds_toArray, List.set_cons_zero, List.set_cons_succ, i64_w, i32_w]
   rfl
  refine one_ (i := 3) (N := some 38) #[true, true, true, true, false] rfl rfl (by kernel_rfl) (by decide) (fun K hK => ?_)
  refine goes_ Try.func20 (by kernel_rfl) rfl #[.agg #[.int .i64 t366, .slice Ao85 t367.length co85], .agg #[.int .i64 t375, .slice Ao92 t376.length co92]] (by rfl) rfl rfl na_ ?_
  with_reducible refine (laws_eqNet.calls k t366 _ _ t367 t375 _ _ t376 true _ ?side1 ?side2 ?side3 ?side4 A40.out).mono ?_
  (case side1 => exact nc_ (rR4 HO369.out).2.2)
  (case side2 => exact (rR4 HO369.out).2.1)
  (case side3 => exact nc_ (rR4 HO378.out).2.2)
  (case side4 => exact (rR4 HO378.out).2.1)
  rintro e w93 ⟨rfl, hb⟩
  refine ⟨_, rfl, ?_⟩
  have n0_ := Aside0.mk (rB4 (nr_ HO361.out) hb)
  have n1_ := Aside0.mk (rB4 (nr_ HO364.out) hb)
  have n2_ := Aside0.mk (rB4 (nr_ HO369.out) hb)
  have n3_ := Aside0.mk (rB4 (nr_ HO373.out) hb)
  have n4_ := Aside0.mk (rB4 (nr_ HO378.out) hb)
  have n5_ := Aside0.mk (blk_below (g := gb355) (o := .cells #[.int .i64 a0_0, .slice A0_1 l0_1.length c0_1] 37 (0, 0)) (nb_ BK355.out) hb)
  have n6_ := Aside0.mk (blk_below (g := gb370) (o := .cells #[.int .i64 t366, .slice Ao85 t367.length co85] 25 (0, 0)) (nb_ BK370.out) hb)
  have n7_ := Aside0.mk (below_step (ne_ HB.out) hb)
  clear HO361
  clear HO364
  clear HO369
  clear HO373
  clear HO378
  clear BK355
  clear BK370
  clear HB
  have HO361 := n0_
  have HO364 := n1_
  have HO369 := n2_
  have HO373 := n3_
  have HO378 := n4_
  have BK355 := n5_
  have BK370 := n6_
  have HB := n7_
  clear n0_ n1_ n2_ n3_ n4_ n5_ n6_ n7_
  (try clear hb)
  (try clear hb2)
  (try clear hk)
  (try clear hi)
  refine hK.out _ _ ⟨(blk_cell BK370.out 0).trans rfl, (blk_cell BK370.out 1).trans rfl, (blk_cell BK355.out 0).trans rfl, (blk_cell BK355.out 1).trans rfl⟩ (fun hHeld => ?_)
  clear hK K
  refine norm_ (a' := ?_) ?_ ?_
  rotate_left
  ·show Act.put _ (some 38) _ = _
   simp only [Act.put, List.setIfInBounds_toArray, List.set_cons_zero, List.set_cons_succ, i64_w, i32_w]
   rfl
  refine pure_ (i := 4) (N := some 39) (v := ?_) (a' := ?_) #[true, true, true, true, true] rfl rfl (by kernel_rfl) (fun _ _ _ h => h) (Or.inl ⟨by rfl, ?_⟩) ?_ ?_
  rotate_left
  ·intro w'
   go_simp
   with_reducible rfl
  rotate_left
  ·simp only [Act.put, List.setIfInBounds_toArray, List.set_cons_zero, List.set_cons_succ, i64_w, i32_w]
   rfl
  refine done_ (by kernel_rfl) ?_
  try go_wp2_with (first | ((with_reducible refine gate_callee (f := 19) rfl ?_); refine gl_ (some 42) Try.func19 #[.slice A1 l1.length c1] ?_; (with_reducible refine (laws_toTurnS.calls k _ _ l1 t380 _ ?side1 ?side2 A42.out).mono ?_); (case side1 => exact nc_ (Kd.C_below HR1.out HB.out)); (case side2 => exact HC1.out); rintro e w94 ⟨v381, rfl, ho0, hb⟩; refine ⟨_, rfl, ?_⟩; have HO382 := Aside0.mk (Kd.R_lower (Kd.R_new' (Kd.R_new' ho0 (Kd.R_lt (nr_ HO364.out))) (Kd.R_lt (nr_ HO373.out))) (below_size (ne_ HB.out))); replace HO361 := kR_ HO361 hb; replace HO364 := Aside0.mk (Kd.R_elder' (nr_ HO364.out) (Kd.R_base ho0) hb); replace HO369 := kR_ HO369 hb; replace HO373 := Aside0.mk (Kd.R_elder' (nr_ HO373.out) (Kd.R_base ho0) hb); replace HO378 := kR_ HO378 hb; replace BK355 := kb_ BK355 hb; replace BK370 := kb_ BK370 hb; replace HB := kB_ HB hb; (try clear hb); (try clear hb2); (try clear hk); (try clear hi); (try clear ho0); obtain ⟨Ao95, co95, eo95⟩ := Kd.R_slice HO382.out; subst eo95) | ((with_reducible refine gate_callee (f := 21) rfl ?_); refine gl_ (some 43) Try.func21 #[.slice Ao88 t371.length co88, .slice Ao95 t380.length co95] ?_; (with_reducible refine (laws_eqTurnS.calls k _ _ t371 _ _ t380 false _ ?side1 ?side2 ?side3 ?side4 A43.out).mono ?_); (case side1 => exact nc_ (rR4 HO373.out).2.2); (case side2 => exact (rR4 HO373.out).2.1); (case side3 => exact nc_ (rR4 HO382.out).2.2); (case side4 => exact (rR4 HO382.out).2.1); rintro e w96 ⟨rfl, hb⟩; refine ⟨_, rfl, ?_⟩; replace HO361 := kR_ HO361 hb; replace HO364 := kR_ HO364 hb; replace HO369 := kR_ HO369 hb; replace HO373 := kR_ HO373 hb; replace HO378 := kR_ HO378 hb; replace HO382 := kR_ HO382 hb; replace BK355 := kb_ BK355 hb; replace BK370 := kb_ BK370 hb; replace HB := kB_ HB hb; (try clear hb); (try clear hb2); (try clear hk); (try clear hi)))
  go_ret
  exact ⟨nw_, ne_ HB.out⟩
/-- THE ONE PURE STATEMENT of laws_FnExactTurnsOk. -/
def laws_FnExactTurnsOk.Pure : Prop := ∀ (a0_0 : Int) (l0_1 : List (S97)) (l1 : List (S76)), (Lit.int .i64 a0_0).wf = true → l0_1.length ≤ maxLen → (∀ x ∈ l0_1, (Lit.int .i64 x.f0).wf = true ∧ (Lit.int .i64 x.f1).wf = true ∧ (Lit.int .i64 x.f2).wf = true ∧ (Lit.int .i64 x.f3).wf = true ∧ (Lit.int .i64 x.f4).wf = true) → l1.length ≤ maxLen → (∀ x ∈ l1, (Lit.int .i64 x.f0).wf = true ∧ (Lit.int .i64 x.f1).wf = true ∧ (Lit.int .i64 x.f2).wf = true) → ∃ k, laws_FnExactTurnsOk.f k a0_0 l0_1 l1 = some true
theorem laws_FnExactTurnsOk.walk (P : laws_FnExactTurnsOk.Pure) (a0_0 : Int) (A0_1 : Option Addr) (c0_1 : Nat) (l0_1 : List (S97)) (A1 : Option Addr) (c1 : Nat) (l1 : List (S76)) (w : World) (hw0_0 : (Lit.int .i64 a0_0).wf = true) (hr0_1 : Kd.C k97 w A0_1 l0_1.length l0_1) (hm0_1 : l0_1.length ≤ maxLen) (hw0_1 : ∀ x ∈ l0_1, (Lit.int .i64 x.f0).wf = true ∧ (Lit.int .i64 x.f1).wf = true ∧ (Lit.int .i64 x.f2).wf = true ∧ (Lit.int .i64 x.f3).wf = true ∧ (Lit.int .i64 x.f4).wf = true) (hc0_1 : l0_1.length ≤ c0_1) (hr1 : Kd.C k76 w A1 l1.length l1) (hm1 : l1.length ≤ maxLen) (hw1 : ∀ x ∈ l1, (Lit.int .i64 x.f0).wf = true ∧ (Lit.int .i64 x.f1).wf = true ∧ (Lit.int .i64 x.f2).wf = true) (hc1 : l1.length ≤ c1) :
    Calls Try.prog 4 #[.agg #[.int .i64 a0_0, .slice A0_1 l0_1.length c0_1], .slice A1 l1.length c1] w fun e w' => e = .returned (.bool true) ∧ Below w.heap.size w w' := by
  obtain ⟨k, h⟩ := P a0_0 l0_1 l1 hw0_0 hm0_1 hw0_1 hm1 hw1
  refine (laws_FnExactTurnsOk.calls k a0_0 A0_1 c0_1 l0_1 A1 c1 l1 true w hr0_1 hc0_1 hr1 hc1 h).mono ?_
  rintro e w' ⟨rfl, hd⟩
  exact ⟨rfl, hd⟩

end Go.Proofs.Ytcfmejfmjjgoaaa.Print
