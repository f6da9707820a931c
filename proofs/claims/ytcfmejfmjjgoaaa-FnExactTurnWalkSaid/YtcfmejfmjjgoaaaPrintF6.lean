-- Made by this session's own program (wip/patch_print.py, over the kit's print). Lean checks it.
import Derived.Test.YtcfmejfmjjgoaaaPrint0
import Derived.Test.YtcfmejfmjjgoaaaPrintB
import Derived.Test.YtcfmejfmjjgoaaaPrintF18
import Derived.Test.YtcfmejfmjjgoaaaPrintF19
import Derived.Test.YtcfmejfmjjgoaaaPrintF20
import Derived.Test.YtcfmejfmjjgoaaaPrintF21
import Derived.Test.YtcfmejfmjjgoaaaPrintF23
import Derived.Test.YtcfmejfmjjgoaaaPrintF24
namespace Go.Proofs.Ytcfmejfmjjgoaaa.Print
open Go.RowKit Go.Proofs.YtcfmejfmjjgoaaaW.PrintWords Go.Proofs.YtcfmejfmjjgoaaaW.PrintLast Go.Proofs.YtcfmejfmjjgoaaaW.PrintMore Go.Proofs.YtcfmejfmjjgoaaaX
attribute [local go_sem] max2_int min2_int max_two min_two max_three min_three max_four min_four   -- for this text's walks alone
set_option linter.unusedVariables false
set_option linter.unusedSimpArgs false

abbrev rD6 := @Kd.R_drew
abbrev bC6 := @blk_cell
abbrev eZ6 := @below_size
abbrev rB6 := @Kd.R_below
abbrev rR6 := @Kd.R_reads'
/-! ### laws_FnExactTurnWalk: function 6 -/
def laws_FnExactTurnWalk.f (k : Nat) (a0_0 : Int) (l0_1 : List (S97)) (l1 : List (S76)) (l2 : List Int) : Option (Bool) := if (l2.length : Int) > 1048576 then (some true) else ((laws_szNet.f a0_0 l0_1 1048576).bind fun t524 => (if t524 < 0 then (some true) else ((laws_szTurnS.f l1 t524).bind fun t525 => (if t525 < 0 then (some true) else ((laws_toNet.f k a0_0 l0_1).bind fun bt526 => ((laws_toTurnS.f k l1).bind fun t530 => ((laws_toIntS.f k l2).bind fun t533 => ((spec_TurnWalk.f k bt526.1 bt526.2 t530 t533).bind fun t536 => ((laws_toNet.f k a0_0 l0_1).bind fun bt537 => ((laws_toTurnS.f k l1).bind fun t542 => ((laws_toIntS.f k l2).bind fun t545 => ((impl_TurnWalk.f k bt537.1 bt537.2 t542 t545).bind fun t548 => (if t548 = t536 then ((laws_toNet.f k a0_0 l0_1).bind fun bt549 => ((laws_eqNet.f k bt537.1 bt537.2 bt549.1 bt549.2).bind fun t553 => (if t553 = true then ((laws_toTurnS.f k l1).bind fun t554 => ((laws_eqTurnS.f k t542 t554).bind fun t557 => (if t557 = true then ((laws_toIntS.f k l2).bind fun t558 => ((laws_eqIntS.f k t545 t558).bind fun t561 => (if t561 = true then (some true) else (some false)))) else (some false)))) else (some false)))) else (some false))))))))))))))
theorem laws_FnExactTurnWalk.mono : ∀ a0 a1 a2 a3 k, LeO (laws_FnExactTurnWalk.f k a0 a1 a2 a3) (laws_FnExactTurnWalk.f (k + 1) a0 a1 a2 a3) := by
  intro a0 a1 a2 a3 k
  unfold laws_FnExactTurnWalk.f
  repeat' first | (with_reducible first | exact impl_TurnWalk.mono _ _ _ _ _ | exact laws_eqIntS.mono _ _ _ | exact laws_eqNet.mono _ _ _ _ _ | exact laws_eqTurnS.mono _ _ _ | exact laws_toIntS.mono _ _ | exact laws_toNet.mono _ _ _ | exact laws_toTurnS.mono _ _ | exact spec_TurnWalk.mono _ _ _ _ _ | exact LeO.refl _ | exact LeO.none _ | refine LeO.ite ?_ ?_ | refine LeO.bind ?_ (fun _ => ?_)) | exact impl_TurnWalk.mono _ _ _ _ _ | exact laws_eqIntS.mono _ _ _ | exact laws_eqNet.mono _ _ _ _ _ | exact laws_eqTurnS.mono _ _ _ | exact laws_toIntS.mono _ _ | exact laws_toNet.mono _ _ _ | exact laws_toTurnS.mono _ _ | exact spec_TurnWalk.mono _ _ _ _ _ | exact LeO.none _ | refine LeO.ite ?_ ?_ | refine LeO.bind ?_ (fun _ => ?_)
set_option maxHeartbeats 200000000 in
set_option maxRecDepth 100000 in
theorem laws_FnExactTurnWalk.calls (k : Nat) (a0_0 : Int) (A0_1 : Option Addr) (c0_1 : Nat) (l0_1 : List (S97)) (A1 : Option Addr) (c1 : Nat) (l1 : List (S76)) (A2 : Option Addr) (c2 : Nat) (l2 : List Int) (r : Bool) (w : World) (hr0_1 : Kd.C k97 w A0_1 l0_1.length l0_1) (hc0_1 : l0_1.length ≤ c0_1) (hr1 : Kd.C k76 w A1 l1.length l1) (hc1 : l1.length ≤ c1) (hr2 : Kd.C (Kd.int .i64) w A2 l2.length l2) (hc2 : l2.length ≤ c2) (h : laws_FnExactTurnWalk.f k a0_0 l0_1 l1 l2 = some r) :
    Calls Try.prog 6 #[.agg #[.int .i64 a0_0, .slice A0_1 l0_1.length c0_1], .slice A1 l1.length c1, .slice A2 l2.length c2] w fun e w' => e = .returned (.bool r) ∧ Below w.heap.size w w' := by
  have hu37 := Try.underlying37
  have hu25 := Try.underlying25
  have HR0_1 := Aside0.mk hr0_1
  have HC0_1 := Aside0.mk hc0_1
  clear hr0_1 hc0_1
  have HR1 := Aside0.mk hr1
  have HC1 := Aside0.mk hc1
  clear hr1 hc1
  have HR2 := Aside0.mk hr2
  have HC2 := Aside0.mk hc2
  clear hr2 hc2
  have HB := Aside0.mk (Below.refl w.heap.size w)
  have H : (if (l2.length : Int) > 1048576 then (some true) else ((laws_szNet.f a0_0 l0_1 1048576).bind fun t524 => (if t524 < 0 then (some true) else ((laws_szTurnS.f l1 t524).bind fun t525 => (if t525 < 0 then (some true) else ((laws_toNet.f k a0_0 l0_1).bind fun bt526 => ((laws_toTurnS.f k l1).bind fun t530 => ((laws_toIntS.f k l2).bind fun t533 => ((spec_TurnWalk.f k bt526.1 bt526.2 t530 t533).bind fun t536 => ((laws_toNet.f k a0_0 l0_1).bind fun bt537 => ((laws_toTurnS.f k l1).bind fun t542 => ((laws_toIntS.f k l2).bind fun t545 => ((impl_TurnWalk.f k bt537.1 bt537.2 t542 t545).bind fun t548 => (if t548 = t536 then ((laws_toNet.f k a0_0 l0_1).bind fun bt549 => ((laws_eqNet.f k bt537.1 bt537.2 bt549.1 bt549.2).bind fun t553 => (if t553 = true then ((laws_toTurnS.f k l1).bind fun t554 => ((laws_eqTurnS.f k t542 t554).bind fun t557 => (if t557 = true then ((laws_toIntS.f k l2).bind fun t558 => ((laws_eqIntS.f k t545 t558).bind fun t561 => (if t561 = true then (some true) else (some false)))) else (some false)))) else (some false)))) else (some false))))))))))))))) = some r := h
  clear h
  by_cases c4 : (l2.length : Int) > 1048576
  ·rw [if_pos c4] at H
   have c4b0 : decide (1048576 < (l2.length : Int)) = true := decide_eq_true c4
   have c4b1 : decide (1048576 < l2.length) = true := decide_eq_true (by omega)
   clear c4
   obtain rfl := Option.some.inj H
   go_enter Try.func6, Try.ntmps6
   go_wp2_with (first | ((with_reducible refine gate_dst (N := 3) rfl ?_); refine bx_ 3 #[.int .i64 a0_0, .slice A0_1 l0_1.length c0_1] 37 ?_; intro gb523 hg w5 hbox hb; have BK523 := Aside0.mk (hbox); have GW523 := Aside0.mk (zs_ hg (ne_ HB.out)); have GE523 := Aside0.mk (zs_ hg (ne_ HB.out)); replace HB := kB_ HB hb; clear hb hbox hg))
   go_ret
   exact ⟨nw_, ne_ HB.out⟩
  rw [if_neg c4] at H
  have c4b0 : decide (1048576 < (l2.length : Int)) = false := decide_eq_false c4
  have c4b1 : decide (1048576 < l2.length) = false := decide_eq_false (by omega)
  clear c4
  replace H := Option.bind_eq_some_iff.mp H
  obtain ⟨t524, A60, H⟩ := H
  replace H : (if t524 < 0 then (some true) else ((laws_szTurnS.f l1 t524).bind fun t525 => (if t525 < 0 then (some true) else ((laws_toNet.f k a0_0 l0_1).bind fun bt526 => ((laws_toTurnS.f k l1).bind fun t530 => ((laws_toIntS.f k l2).bind fun t533 => ((spec_TurnWalk.f k bt526.1 bt526.2 t530 t533).bind fun t536 => ((laws_toNet.f k a0_0 l0_1).bind fun bt537 => ((laws_toTurnS.f k l1).bind fun t542 => ((laws_toIntS.f k l2).bind fun t545 => ((impl_TurnWalk.f k bt537.1 bt537.2 t542 t545).bind fun t548 => (if t548 = t536 then ((laws_toNet.f k a0_0 l0_1).bind fun bt549 => ((laws_eqNet.f k bt537.1 bt537.2 bt549.1 bt549.2).bind fun t553 => (if t553 = true then ((laws_toTurnS.f k l1).bind fun t554 => ((laws_eqTurnS.f k t542 t554).bind fun t557 => (if t557 = true then ((laws_toIntS.f k l2).bind fun t558 => ((laws_eqIntS.f k t545 t558).bind fun t561 => (if t561 = true then (some true) else (some false)))) else (some false)))) else (some false)))) else (some false))))))))))))) = some r := H
  have A6 := Aside0.mk A60
  clear A60
  by_cases c7 : t524 < 0
  ·rw [if_pos c7] at H
   have c7b0 : decide (t524 < 0) = true := decide_eq_true c7
   clear c7
   obtain rfl := Option.some.inj H
   go_enter Try.func6, Try.ntmps6
   go_wp2_with (first | ((with_reducible refine gate_dst (N := 3) rfl ?_); refine bx_ 3 #[.int .i64 a0_0, .slice A0_1 l0_1.length c0_1] 37 ?_; intro gb523 hg w8 hbox hb; have BK523 := Aside0.mk (hbox); have GW523 := Aside0.mk (zs_ hg (ne_ HB.out)); have GE523 := Aside0.mk (zs_ hg (ne_ HB.out)); replace HB := kB_ HB hb; clear hb hbox hg; obtain ⟨hcz9_0, hcz9_1, hfz9_0, hfz9_1⟩ := cz2_ BK523.out) | ((with_reducible refine gate_callee (f := 16) rfl ?_); refine gl_ (some 18) Try.func16 #[.agg #[.int .i64 a0_0, .slice A0_1 l0_1.length c0_1], .int .i64 1048576] ?_; (with_reducible refine (laws_szNet.calls a0_0 _ _ l0_1 1048576 t524 _ ?side1 ?side2 A6.out).mono ?_); (case side1 => exact nc_ (Kd.C_below HR0_1.out HB.out)); (case side2 => exact HC0_1.out); rintro e w10 ⟨rfl, hb⟩; refine ⟨_, rfl, ?_⟩; replace BK523 := kb_ BK523 hb; replace HB := kB_ HB hb; (try clear hb); (try clear hb2); (try clear hk); (try clear hi)))
   go_ret
   exact ⟨nw_, ne_ HB.out⟩
  rw [if_neg c7] at H
  have c7b0 : decide (t524 < 0) = false := decide_eq_false c7
  clear c7
  replace H := Option.bind_eq_some_iff.mp H
  obtain ⟨t525, A110, H⟩ := H
  replace H : (if t525 < 0 then (some true) else ((laws_toNet.f k a0_0 l0_1).bind fun bt526 => ((laws_toTurnS.f k l1).bind fun t530 => ((laws_toIntS.f k l2).bind fun t533 => ((spec_TurnWalk.f k bt526.1 bt526.2 t530 t533).bind fun t536 => ((laws_toNet.f k a0_0 l0_1).bind fun bt537 => ((laws_toTurnS.f k l1).bind fun t542 => ((laws_toIntS.f k l2).bind fun t545 => ((impl_TurnWalk.f k bt537.1 bt537.2 t542 t545).bind fun t548 => (if t548 = t536 then ((laws_toNet.f k a0_0 l0_1).bind fun bt549 => ((laws_eqNet.f k bt537.1 bt537.2 bt549.1 bt549.2).bind fun t553 => (if t553 = true then ((laws_toTurnS.f k l1).bind fun t554 => ((laws_eqTurnS.f k t542 t554).bind fun t557 => (if t557 = true then ((laws_toIntS.f k l2).bind fun t558 => ((laws_eqIntS.f k t545 t558).bind fun t561 => (if t561 = true then (some true) else (some false)))) else (some false)))) else (some false)))) else (some false))))))))))) = some r := H
  have A11 := Aside0.mk A110
  clear A110
  by_cases c12 : t525 < 0
  ·rw [if_pos c12] at H
   have c12b0 : decide (t525 < 0) = true := decide_eq_true c12
   clear c12
   obtain rfl := Option.some.inj H
   go_enter Try.func6, Try.ntmps6
   go_wp2_with (first | ((with_reducible refine gate_dst (N := 3) rfl ?_); refine bx_ 3 #[.int .i64 a0_0, .slice A0_1 l0_1.length c0_1] 37 ?_; intro gb523 hg w13 hbox hb; have BK523 := Aside0.mk (hbox); have GW523 := Aside0.mk (zs_ hg (ne_ HB.out)); have GE523 := Aside0.mk (zs_ hg (ne_ HB.out)); replace HB := kB_ HB hb; clear hb hbox hg; obtain ⟨hcz14_0, hcz14_1, hfz14_0, hfz14_1⟩ := cz2_ BK523.out) | ((with_reducible refine gate_callee (f := 16) rfl ?_); refine gl_ (some 18) Try.func16 #[.agg #[.int .i64 a0_0, .slice A0_1 l0_1.length c0_1], .int .i64 1048576] ?_; (with_reducible refine (laws_szNet.calls a0_0 _ _ l0_1 1048576 t524 _ ?side1 ?side2 A6.out).mono ?_); (case side1 => exact nc_ (Kd.C_below HR0_1.out HB.out)); (case side2 => exact HC0_1.out); rintro e w15 ⟨rfl, hb⟩; refine ⟨_, rfl, ?_⟩; replace BK523 := kb_ BK523 hb; replace HB := kB_ HB hb; (try clear hb); (try clear hb2); (try clear hk); (try clear hi)) | ((with_reducible refine gate_callee (f := 17) rfl ?_); refine gl_ (some 23) Try.func17 #[.slice A1 l1.length c1, .int .i64 t524] ?_; (with_reducible refine (laws_szTurnS.calls _ _ l1 t524 t525 _ ?side1 ?side2 A11.out).mono ?_); (case side1 => exact nc_ (Kd.C_below HR1.out HB.out)); (case side2 => exact HC1.out); rintro e w' ⟨rfl, ⟨nd, rfl⟩⟩; refine ⟨_, rfl, ?_⟩))
   go_ret
   exact ⟨nw_, ne_ HB.out⟩
  rw [if_neg c12] at H
  have c12b0 : decide (t525 < 0) = false := decide_eq_false c12
  clear c12
  replace H := Option.bind_eq_some_iff.mp H
  obtain ⟨⟨t526, t527⟩, A160, H⟩ := H
  replace H : ((laws_toTurnS.f k l1).bind fun t530 => ((laws_toIntS.f k l2).bind fun t533 => ((spec_TurnWalk.f k t526 t527 t530 t533).bind fun t536 => ((laws_toNet.f k a0_0 l0_1).bind fun bt537 => ((laws_toTurnS.f k l1).bind fun t542 => ((laws_toIntS.f k l2).bind fun t545 => ((impl_TurnWalk.f k bt537.1 bt537.2 t542 t545).bind fun t548 => (if t548 = t536 then ((laws_toNet.f k a0_0 l0_1).bind fun bt549 => ((laws_eqNet.f k bt537.1 bt537.2 bt549.1 bt549.2).bind fun t553 => (if t553 = true then ((laws_toTurnS.f k l1).bind fun t554 => ((laws_eqTurnS.f k t542 t554).bind fun t557 => (if t557 = true then ((laws_toIntS.f k l2).bind fun t558 => ((laws_eqIntS.f k t545 t558).bind fun t561 => (if t561 = true then (some true) else (some false)))) else (some false)))) else (some false)))) else (some false))))))))) = some r := H
  have A16 := Aside0.mk A160
  clear A160
  replace H := Option.bind_eq_some_iff.mp H
  obtain ⟨t530, A170, H⟩ := H
  replace H : ((laws_toIntS.f k l2).bind fun t533 => ((spec_TurnWalk.f k t526 t527 t530 t533).bind fun t536 => ((laws_toNet.f k a0_0 l0_1).bind fun bt537 => ((laws_toTurnS.f k l1).bind fun t542 => ((laws_toIntS.f k l2).bind fun t545 => ((impl_TurnWalk.f k bt537.1 bt537.2 t542 t545).bind fun t548 => (if t548 = t536 then ((laws_toNet.f k a0_0 l0_1).bind fun bt549 => ((laws_eqNet.f k bt537.1 bt537.2 bt549.1 bt549.2).bind fun t553 => (if t553 = true then ((laws_toTurnS.f k l1).bind fun t554 => ((laws_eqTurnS.f k t542 t554).bind fun t557 => (if t557 = true then ((laws_toIntS.f k l2).bind fun t558 => ((laws_eqIntS.f k t545 t558).bind fun t561 => (if t561 = true then (some true) else (some false)))) else (some false)))) else (some false)))) else (some false)))))))) = some r := H
  have A17 := Aside0.mk A170
  clear A170
  replace H := Option.bind_eq_some_iff.mp H
  obtain ⟨t533, A180, H⟩ := H
  replace H : ((spec_TurnWalk.f k t526 t527 t530 t533).bind fun t536 => ((laws_toNet.f k a0_0 l0_1).bind fun bt537 => ((laws_toTurnS.f k l1).bind fun t542 => ((laws_toIntS.f k l2).bind fun t545 => ((impl_TurnWalk.f k bt537.1 bt537.2 t542 t545).bind fun t548 => (if t548 = t536 then ((laws_toNet.f k a0_0 l0_1).bind fun bt549 => ((laws_eqNet.f k bt537.1 bt537.2 bt549.1 bt549.2).bind fun t553 => (if t553 = true then ((laws_toTurnS.f k l1).bind fun t554 => ((laws_eqTurnS.f k t542 t554).bind fun t557 => (if t557 = true then ((laws_toIntS.f k l2).bind fun t558 => ((laws_eqIntS.f k t545 t558).bind fun t561 => (if t561 = true then (some true) else (some false)))) else (some false)))) else (some false)))) else (some false))))))) = some r := H
  have A18 := Aside0.mk A180
  clear A180
  replace H := Option.bind_eq_some_iff.mp H
  obtain ⟨t536, A190, H⟩ := H
  replace H : ((laws_toNet.f k a0_0 l0_1).bind fun bt537 => ((laws_toTurnS.f k l1).bind fun t542 => ((laws_toIntS.f k l2).bind fun t545 => ((impl_TurnWalk.f k bt537.1 bt537.2 t542 t545).bind fun t548 => (if t548 = t536 then ((laws_toNet.f k a0_0 l0_1).bind fun bt549 => ((laws_eqNet.f k bt537.1 bt537.2 bt549.1 bt549.2).bind fun t553 => (if t553 = true then ((laws_toTurnS.f k l1).bind fun t554 => ((laws_eqTurnS.f k t542 t554).bind fun t557 => (if t557 = true then ((laws_toIntS.f k l2).bind fun t558 => ((laws_eqIntS.f k t545 t558).bind fun t561 => (if t561 = true then (some true) else (some false)))) else (some false)))) else (some false)))) else (some false)))))) = some r := H
  have A19 := Aside0.mk A190
  clear A190
  replace H := Option.bind_eq_some_iff.mp H
  obtain ⟨⟨t537, t538⟩, A200, H⟩ := H
  replace H : ((laws_toTurnS.f k l1).bind fun t542 => ((laws_toIntS.f k l2).bind fun t545 => ((impl_TurnWalk.f k t537 t538 t542 t545).bind fun t548 => (if t548 = t536 then ((laws_toNet.f k a0_0 l0_1).bind fun bt549 => ((laws_eqNet.f k t537 t538 bt549.1 bt549.2).bind fun t553 => (if t553 = true then ((laws_toTurnS.f k l1).bind fun t554 => ((laws_eqTurnS.f k t542 t554).bind fun t557 => (if t557 = true then ((laws_toIntS.f k l2).bind fun t558 => ((laws_eqIntS.f k t545 t558).bind fun t561 => (if t561 = true then (some true) else (some false)))) else (some false)))) else (some false)))) else (some false))))) = some r := H
  have A20 := Aside0.mk A200
  clear A200
  replace H := Option.bind_eq_some_iff.mp H
  obtain ⟨t542, A210, H⟩ := H
  replace H : ((laws_toIntS.f k l2).bind fun t545 => ((impl_TurnWalk.f k t537 t538 t542 t545).bind fun t548 => (if t548 = t536 then ((laws_toNet.f k a0_0 l0_1).bind fun bt549 => ((laws_eqNet.f k t537 t538 bt549.1 bt549.2).bind fun t553 => (if t553 = true then ((laws_toTurnS.f k l1).bind fun t554 => ((laws_eqTurnS.f k t542 t554).bind fun t557 => (if t557 = true then ((laws_toIntS.f k l2).bind fun t558 => ((laws_eqIntS.f k t545 t558).bind fun t561 => (if t561 = true then (some true) else (some false)))) else (some false)))) else (some false)))) else (some false)))) = some r := H
  have A21 := Aside0.mk A210
  clear A210
  replace H := Option.bind_eq_some_iff.mp H
  obtain ⟨t545, A220, H⟩ := H
  replace H : ((impl_TurnWalk.f k t537 t538 t542 t545).bind fun t548 => (if t548 = t536 then ((laws_toNet.f k a0_0 l0_1).bind fun bt549 => ((laws_eqNet.f k t537 t538 bt549.1 bt549.2).bind fun t553 => (if t553 = true then ((laws_toTurnS.f k l1).bind fun t554 => ((laws_eqTurnS.f k t542 t554).bind fun t557 => (if t557 = true then ((laws_toIntS.f k l2).bind fun t558 => ((laws_eqIntS.f k t545 t558).bind fun t561 => (if t561 = true then (some true) else (some false)))) else (some false)))) else (some false)))) else (some false))) = some r := H
  have A22 := Aside0.mk A220
  clear A220
  replace H := Option.bind_eq_some_iff.mp H
  obtain ⟨t548, A230, H⟩ := H
  replace H : (if t548 = t536 then ((laws_toNet.f k a0_0 l0_1).bind fun bt549 => ((laws_eqNet.f k t537 t538 bt549.1 bt549.2).bind fun t553 => (if t553 = true then ((laws_toTurnS.f k l1).bind fun t554 => ((laws_eqTurnS.f k t542 t554).bind fun t557 => (if t557 = true then ((laws_toIntS.f k l2).bind fun t558 => ((laws_eqIntS.f k t545 t558).bind fun t561 => (if t561 = true then (some true) else (some false)))) else (some false)))) else (some false)))) else (some false)) = some r := H
  have A23 := Aside0.mk A230
  clear A230
  by_cases c24 : t548 = t536
  rotate_left
  ·rw [if_neg c24] at H
   have c24b0 : (t548 == t536) = false := beq_eq_false_iff_ne.mpr c24
   have c24b1 : (t548 != t536) = true := bne_iff_ne.mpr c24
   obtain rfl := Option.some.inj H
   go_enter Try.func6, Try.ntmps6
   go_wp2_with (first | ((with_reducible refine gate_dst (N := 3) rfl ?_); refine bx_ 3 #[.int .i64 a0_0, .slice A0_1 l0_1.length c0_1] 37 ?_; intro gb523 hg w155 hbox hb; have BK523 := Aside0.mk (hbox); have GW523 := Aside0.mk (zs_ hg (ne_ HB.out)); have GE523 := Aside0.mk (zs_ hg (ne_ HB.out)); replace HB := kB_ HB hb; clear hb hbox hg; obtain ⟨hcz156_0, hcz156_1, hfz156_0, hfz156_1⟩ := cz2_ BK523.out) | ((with_reducible refine gate_callee (f := 16) rfl ?_); refine gl_ (some 18) Try.func16 #[.agg #[.int .i64 a0_0, .slice A0_1 l0_1.length c0_1], .int .i64 1048576] ?_; (with_reducible refine (laws_szNet.calls a0_0 _ _ l0_1 1048576 t524 _ ?side1 ?side2 A6.out).mono ?_); (case side1 => exact nc_ (Kd.C_below HR0_1.out HB.out)); (case side2 => exact HC0_1.out); rintro e w157 ⟨rfl, hb⟩; refine ⟨_, rfl, ?_⟩; replace BK523 := kb_ BK523 hb; replace HB := kB_ HB hb; (try clear hb); (try clear hb2); (try clear hk); (try clear hi)) | ((with_reducible refine gate_callee (f := 17) rfl ?_); refine gl_ (some 23) Try.func17 #[.slice A1 l1.length c1, .int .i64 t524] ?_; (with_reducible refine (laws_szTurnS.calls _ _ l1 t524 t525 _ ?side1 ?side2 A11.out).mono ?_); (case side1 => exact nc_ (Kd.C_below HR1.out HB.out)); (case side2 => exact HC1.out); rintro e w' ⟨rfl, ⟨nd, rfl⟩⟩; refine ⟨_, rfl, ?_⟩; (first | (rw [drewN_self w157]; generalize hq_ : World.drewN w157 _ = w157; replace BK523 : Aside0 (w157.heap[gb523]? = some (.cells #[.int .i64 a0_0, .slice A0_1 l0_1.length c0_1] 37 (0, 0))) := ⟨by rw [← hq_]; exact (nb_ BK523.out)⟩; replace HB : Aside0 (Below w.heap.size w w157) := ⟨by rw [← hq_]; exact (ne_ HB.out)⟩; clear hq_) | (have n0_ : Aside0 (w157.heap[gb523]? = some (.cells #[.int .i64 a0_0, .slice A0_1 l0_1.length c0_1] 37 (0, 0))) := ⟨(nb_ BK523.out)⟩; have n1_ : Aside0 (Below w.heap.size w w157) := ⟨(ne_ HB.out)⟩; clear BK523 HB; have BK523 := n0_; have HB := n1_; clear n0_ n1_)); obtain ⟨hcz158_0, hcz158_1, hfz158_0, hfz158_1⟩ := cz2_ BK523.out) | ((with_reducible refine gate_callee (f := 18) rfl ?_); refine gl_ (some 27) Try.func18 #[.agg #[.int .i64 a0_0, .slice A0_1 l0_1.length c0_1]] ?_; (with_reducible refine (laws_toNet.calls k a0_0 _ _ l0_1 t526 t527 _ ?side1 ?side2 A16.out).mono ?_); (case side1 => exact nc_ (Kd.C_below HR0_1.out HB.out)); (case side2 => exact HC0_1.out); rintro e w159 ⟨v528, rfl, ho0, hb⟩; refine ⟨_, rfl, ?_⟩; have HO529 := Aside0.mk (Kd.R_lower ho0 (eZ6 (ne_ HB.out))); replace BK523 := kb_ BK523 hb; replace HB := kB_ HB hb; (try clear hb); (try clear hb2); (try clear hk); (try clear hi); (try clear ho0)) | ((with_reducible refine gate_callee (f := 19) rfl ?_); refine gl_ (some 29) Try.func19 #[.slice A1 l1.length c1] ?_; (with_reducible refine (laws_toTurnS.calls k _ _ l1 t530 _ ?side1 ?side2 A17.out).mono ?_); (case side1 => exact nc_ (Kd.C_below HR1.out HB.out)); (case side2 => exact HC1.out); rintro e w160 ⟨v531, rfl, ho0, hb⟩; refine ⟨_, rfl, ?_⟩; have HO532 := Aside0.mk (Kd.R_lower ho0 (eZ6 (ne_ HB.out))); replace HO529 := kR_ HO529 hb; replace BK523 := kb_ BK523 hb; replace HB := kB_ HB hb; (try clear hb); (try clear hb2); (try clear hk); (try clear hi); (try clear ho0)) | ((with_reducible refine gate_callee (f := 27) rfl ?_); refine gl_ (some 31) Try.func27 #[.slice A2 l2.length c2] ?_; (with_reducible refine (laws_toIntS.calls k _ _ l2 t533 _ ?side1 ?side2 A18.out).mono ?_); (case side1 => exact nc_ (Kd.C_below HR2.out HB.out)); (case side2 => exact HC2.out); rintro e w161 ⟨v534, rfl, ho0, hb⟩; refine ⟨_, rfl, ?_⟩; have HO535 := Aside0.mk (Kd.R_lower ho0 (eZ6 (ne_ HB.out))); replace HO529 := kR_ HO529 hb; replace HO532 := kR_ HO532 hb; replace BK523 := kb_ BK523 hb; replace HB := kB_ HB hb; (try clear hb); (try clear hb2); (try clear hk); (try clear hi); (try clear ho0); obtain ⟨Ao162, co162, eo162⟩ := Kd.R_slice HO529.out; subst eo162; obtain ⟨Ao163, co163, eo163⟩ := Kd.R_slice HO532.out; subst eo163; obtain ⟨Ao164, co164, eo164⟩ := Kd.R_slice HO535.out; subst eo164) | ((with_reducible refine gate_callee (f := 24) rfl ?_); refine gl_ (some 32) Try.func24 #[.agg #[.int .i64 t526, .slice Ao162 t527.length co162], .slice Ao163 t530.length co163, .slice Ao164 t533.length co164] ?_; (with_reducible refine (spec_TurnWalk.calls k t526 _ _ t527 _ _ t530 _ _ t533 t536 _ ?side1 ?side2 ?side3 ?side4 ?side5 ?side6 A19.out).mono ?_); (case side1 => exact nc_ (rR6 HO529.out).2.2); (case side2 => exact (rR6 HO529.out).2.1); (case side3 => exact nc_ (rR6 HO532.out).2.2); (case side4 => exact (rR6 HO532.out).2.1); (case side5 => exact nc_ (rR6 HO535.out).2.2); (case side6 => exact (rR6 HO535.out).2.1); rintro e w165 ⟨rfl, hb⟩; refine ⟨_, rfl, ?_⟩; replace HO529 := kR_ HO529 hb; replace HO532 := kR_ HO532 hb; replace HO535 := kR_ HO535 hb; replace BK523 := kb_ BK523 hb; replace HB := kB_ HB hb; (try clear hb); (try clear hb2); (try clear hk); (try clear hi); obtain ⟨hcz166_0, hcz166_1, hfz166_0, hfz166_1⟩ := cz2_ BK523.out) | ((with_reducible refine gate_callee (f := 18) rfl ?_); refine gl_ (some 34) Try.func18 #[.agg #[.int .i64 a0_0, .slice A0_1 l0_1.length c0_1]] ?_; (with_reducible refine (laws_toNet.calls k a0_0 _ _ l0_1 t537 t538 _ ?side1 ?side2 A20.out).mono ?_); (case side1 => exact nc_ (Kd.C_below HR0_1.out HB.out)); (case side2 => exact HC0_1.out); rintro e w167 ⟨v539, rfl, ho0, hb⟩; refine ⟨_, rfl, ?_⟩; have HO540 := Aside0.mk (Kd.R_lower (Kd.R_new' ho0 (Kd.R_lt (nr_ HO529.out))) (eZ6 (ne_ HB.out))); replace HO529 := Aside0.mk (Kd.R_elder' (nr_ HO529.out) (Kd.R_base ho0) hb); replace HO532 := kR_ HO532 hb; replace HO535 := kR_ HO535 hb; replace BK523 := kb_ BK523 hb; replace HB := kB_ HB hb; (try clear hb); (try clear hb2); (try clear hk); (try clear hi); (try clear ho0)) | ((with_reducible refine gate_dst (N := 9) rfl ?_); refine bx_ 9 #[.int .i64 0, .slice none 0 0] 25 ?_; intro gb541 hg w168 hbox hb; have BK541 := Aside0.mk (hbox); have GW541 := Aside0.mk (zs_ hg (ne_ HB.out)); have GE541 := Aside0.mk (zs_ hg (ne_ HB.out)); have NB523_541 := Aside0.mk (nl_ BK523.out hg); have NB541_523 := Aside0.mk (nm_ BK523.out hg); replace HO529 := kR_ HO529 hb; replace HO532 := kR_ HO532 hb; replace HO535 := kR_ HO535 hb; replace HO540 := kR_ HO540 hb; replace BK523 := kb_ BK523 hb; replace HB := kB_ HB hb; clear hb hbox hg; have hnb169 := NB541_523.out; have hnc169 := NB523_541.out; obtain ⟨hcz170_0, hcz170_1, hfz170_0, hfz170_1⟩ := cz2_ BK541.out; obtain ⟨Ao171, co171, eo171⟩ := Kd.R_slice HO540.out; subst eo171) | ((with_reducible refine gate_callee (f := 19) rfl ?_); refine gl_ (some 36) Try.func19 #[.slice A1 l1.length c1] ?_; (with_reducible refine (laws_toTurnS.calls k _ _ l1 t542 _ ?side1 ?side2 A21.out).mono ?_); (case side1 => exact Kd.C_below HR1.out (ne_ HB.out)); (case side2 => exact HC1.out); rintro e w172 ⟨v543, rfl, ho0, hb⟩; refine ⟨_, rfl, ?_⟩; have HO544 := Aside0.mk (Kd.R_lower (Kd.R_new' ho0 (Kd.R_lt (by (with_reducible repeat (first | apply Kd.R_alloc | apply Kd.R_drewN | apply rD6)); exact (Kd.R_mono (rf2_ (Kd.R_types HO532.out BK541.out (by decide))) (fun _ h_ => h_.1))))) (eZ6 (ne_ HB.out))); replace HO529 := Aside0.mk (rB6 (by (with_reducible repeat (first | apply Kd.R_alloc | apply Kd.R_drewN | apply rD6)); exact (Kd.R_mono (rf2_ (Kd.R_types HO529.out BK541.out (by decide))) (fun _ h_ => h_.1))) hb); replace HO532 := Aside0.mk (Kd.R_elder' (by (with_reducible repeat (first | apply Kd.R_alloc | apply Kd.R_drewN | apply rD6)); exact (Kd.R_mono (rf2_ (Kd.R_types HO532.out BK541.out (by decide))) (fun _ h_ => h_.1))) (Kd.R_base ho0) hb); replace HO535 := Aside0.mk (rB6 (by (with_reducible repeat (first | apply Kd.R_alloc | apply Kd.R_drewN | apply rD6)); exact (Kd.R_mono (rf2_ (Kd.R_types HO535.out BK541.out (by decide))) (fun _ h_ => h_.1))) hb); replace HO540 := Aside0.mk (rB6 (by (with_reducible repeat (first | apply Kd.R_alloc | apply Kd.R_drewN | apply rD6)); exact (Kd.R_mono (rf2_ (Kd.R_types HO540.out BK541.out (by decide))) (fun _ h_ => h_.1))) hb); replace BK523 := kf_ BK523 hb; replace BK541 := Aside0.mk (blk_below (g := gb541) (o := .cells #[.int .i64 t537, .slice Ao171 t538.length co171] 25 (0, 0)) (np_ BK541.out) hb); replace HB := kB_ HB hb; (try clear hb); (try clear hb2); (try clear hk); (try clear hi); (try clear ho0)) | ((with_reducible refine gate_callee (f := 27) rfl ?_); refine gl_ (some 38) Try.func27 #[.slice A2 l2.length c2] ?_; (with_reducible refine (laws_toIntS.calls k _ _ l2 t545 _ ?side1 ?side2 A22.out).mono ?_); (case side1 => exact nc_ (Kd.C_below HR2.out HB.out)); (case side2 => exact HC2.out); rintro e w173 ⟨v546, rfl, ho0, hb⟩; refine ⟨_, rfl, ?_⟩; have HO547 := Aside0.mk (Kd.R_lower (Kd.R_new' ho0 (Kd.R_lt (nr_ HO535.out))) (eZ6 (ne_ HB.out))); replace HO529 := kR_ HO529 hb; replace HO532 := kR_ HO532 hb; replace HO535 := Aside0.mk (Kd.R_elder' (nr_ HO535.out) (Kd.R_base ho0) hb); replace HO540 := kR_ HO540 hb; replace HO544 := kR_ HO544 hb; replace BK523 := kb_ BK523 hb; replace BK541 := kb_ BK541 hb; replace HB := kB_ HB hb; (try clear hb); (try clear hb2); (try clear hk); (try clear hi); (try clear ho0); obtain ⟨hcz174_0, hcz174_1, hfz174_0, hfz174_1⟩ := cz2_ BK541.out; obtain ⟨Ao175, co175, eo175⟩ := Kd.R_slice HO544.out; subst eo175; obtain ⟨Ao176, co176, eo176⟩ := Kd.R_slice HO547.out; subst eo176) | ((with_reducible refine gate_callee (f := 23) rfl ?_); refine gl_ (some 42) Try.func23 #[.agg #[.int .i64 t537, .slice Ao171 t538.length co171], .slice Ao175 t542.length co175, .slice Ao176 t545.length co176] ?_; (with_reducible refine (impl_TurnWalk.calls k t537 _ _ t538 _ _ t542 _ _ t545 t548 _ ?side1 ?side2 ?side3 ?side4 ?side5 ?side6 A23.out).mono ?_); (case side1 => exact nc_ (rR6 HO540.out).2.2); (case side2 => exact (rR6 HO540.out).2.1); (case side3 => exact nc_ (rR6 HO544.out).2.2); (case side4 => exact (rR6 HO544.out).2.1); (case side5 => exact nc_ (rR6 HO547.out).2.2); (case side6 => exact (rR6 HO547.out).2.1); rintro e w177 ⟨rfl, hb⟩; refine ⟨_, rfl, ?_⟩; replace HO529 := kR_ HO529 hb; replace HO532 := kR_ HO532 hb; replace HO535 := kR_ HO535 hb; replace HO540 := kR_ HO540 hb; replace HO544 := kR_ HO544 hb; replace HO547 := kR_ HO547 hb; replace BK523 := kb_ BK523 hb; replace BK541 := kb_ BK541 hb; replace HB := kB_ HB hb; (try clear hb); (try clear hb2); (try clear hk); (try clear hi)))
   go_ret
   exact ⟨nw_, ne_ HB.out⟩

  rw [if_pos c24] at H
  have c24b0 : (t548 == t536) = true := beq_iff_eq.mpr c24
  have c24b1 : (t548 != t536) = false := bne_eq_false_iff_eq.mpr c24
  clear c24
  replace H := Option.bind_eq_some_iff.mp H
  obtain ⟨⟨t549, t550⟩, A250, H⟩ := H
  replace H : ((laws_eqNet.f k t537 t538 t549 t550).bind fun t553 => (if t553 = true then ((laws_toTurnS.f k l1).bind fun t554 => ((laws_eqTurnS.f k t542 t554).bind fun t557 => (if t557 = true then ((laws_toIntS.f k l2).bind fun t558 => ((laws_eqIntS.f k t545 t558).bind fun t561 => (if t561 = true then (some true) else (some false)))) else (some false)))) else (some false))) = some r := H
  have A25 := Aside0.mk A250
  clear A250
  replace H := Option.bind_eq_some_iff.mp H
  obtain ⟨t553, A260, H⟩ := H
  replace H : (if t553 = true then ((laws_toTurnS.f k l1).bind fun t554 => ((laws_eqTurnS.f k t542 t554).bind fun t557 => (if t557 = true then ((laws_toIntS.f k l2).bind fun t558 => ((laws_eqIntS.f k t545 t558).bind fun t561 => (if t561 = true then (some true) else (some false)))) else (some false)))) else (some false)) = some r := H
  have A26 := Aside0.mk A260
  clear A260
  by_cases c27 : t553 = true
  rotate_left
  ·replace c27 := Bool.eq_false_iff.mpr c27
   subst c27
   have H1 : (some false) = some r := by rw [if_neg (show ¬ (false = true) by decide)] at H; exact H
   clear H
   have H := H1
   clear H1
   obtain rfl := Option.some.inj H
   go_enter Try.func6, Try.ntmps6
   try go_wp2_with (first | ((with_reducible refine gate_dst (N := 3) rfl ?_); refine bx_ 3 #[.int .i64 a0_0, .slice A0_1 l0_1.length c0_1] 37 ?_; intro gb523 hg w128 hbox hb; have BK523 := Aside0.mk (hbox); have GW523 := Aside0.mk (zs_ hg (ne_ HB.out)); have GE523 := Aside0.mk (zs_ hg (ne_ HB.out)); replace HB := kB_ HB hb; clear hb hbox hg; obtain ⟨hcz129_0, hcz129_1, hfz129_0, hfz129_1⟩ := cz2_ BK523.out) | ((with_reducible refine gate_callee (f := 16) rfl ?_); refine gl_ (some 18) Try.func16 #[.agg #[.int .i64 a0_0, .slice A0_1 l0_1.length c0_1], .int .i64 1048576] ?_; (with_reducible refine (laws_szNet.calls a0_0 _ _ l0_1 1048576 t524 _ ?side1 ?side2 A6.out).mono ?_); (case side1 => exact nc_ (Kd.C_below HR0_1.out HB.out)); (case side2 => exact HC0_1.out); rintro e w130 ⟨rfl, hb⟩; refine ⟨_, rfl, ?_⟩; replace BK523 := kb_ BK523 hb; replace HB := kB_ HB hb; (try clear hb); (try clear hb2); (try clear hk); (try clear hi)) | ((with_reducible refine gate_callee (f := 17) rfl ?_); refine gl_ (some 23) Try.func17 #[.slice A1 l1.length c1, .int .i64 t524] ?_; (with_reducible refine (laws_szTurnS.calls _ _ l1 t524 t525 _ ?side1 ?side2 A11.out).mono ?_); (case side1 => exact nc_ (Kd.C_below HR1.out HB.out)); (case side2 => exact HC1.out); rintro e w' ⟨rfl, ⟨nd, rfl⟩⟩; refine ⟨_, rfl, ?_⟩; (first | (rw [drewN_self w130]; generalize hq_ : World.drewN w130 _ = w130; replace BK523 : Aside0 (w130.heap[gb523]? = some (.cells #[.int .i64 a0_0, .slice A0_1 l0_1.length c0_1] 37 (0, 0))) := ⟨by rw [← hq_]; exact (nb_ BK523.out)⟩; replace HB : Aside0 (Below w.heap.size w w130) := ⟨by rw [← hq_]; exact (ne_ HB.out)⟩; clear hq_) | (have n0_ : Aside0 (w130.heap[gb523]? = some (.cells #[.int .i64 a0_0, .slice A0_1 l0_1.length c0_1] 37 (0, 0))) := ⟨(nb_ BK523.out)⟩; have n1_ : Aside0 (Below w.heap.size w w130) := ⟨(ne_ HB.out)⟩; clear BK523 HB; have BK523 := n0_; have HB := n1_; clear n0_ n1_)); obtain ⟨hcz131_0, hcz131_1, hfz131_0, hfz131_1⟩ := cz2_ BK523.out) | ((with_reducible refine gate_callee (f := 18) rfl ?_); refine gl_ (some 27) Try.func18 #[.agg #[.int .i64 a0_0, .slice A0_1 l0_1.length c0_1]] ?_; (with_reducible refine (laws_toNet.calls k a0_0 _ _ l0_1 t526 t527 _ ?side1 ?side2 A16.out).mono ?_); (case side1 => exact nc_ (Kd.C_below HR0_1.out HB.out)); (case side2 => exact HC0_1.out); rintro e w132 ⟨v528, rfl, ho0, hb⟩; refine ⟨_, rfl, ?_⟩; have HO529 := Aside0.mk (Kd.R_lower ho0 (eZ6 (ne_ HB.out))); replace BK523 := kb_ BK523 hb; replace HB := kB_ HB hb; (try clear hb); (try clear hb2); (try clear hk); (try clear hi); (try clear ho0)) | ((with_reducible refine gate_callee (f := 19) rfl ?_); refine gl_ (some 29) Try.func19 #[.slice A1 l1.length c1] ?_; (with_reducible refine (laws_toTurnS.calls k _ _ l1 t530 _ ?side1 ?side2 A17.out).mono ?_); (case side1 => exact nc_ (Kd.C_below HR1.out HB.out)); (case side2 => exact HC1.out); rintro e w133 ⟨v531, rfl, ho0, hb⟩; refine ⟨_, rfl, ?_⟩; have HO532 := Aside0.mk (Kd.R_lower ho0 (eZ6 (ne_ HB.out))); replace HO529 := kR_ HO529 hb; replace BK523 := kb_ BK523 hb; replace HB := kB_ HB hb; (try clear hb); (try clear hb2); (try clear hk); (try clear hi); (try clear ho0)) | ((with_reducible refine gate_callee (f := 27) rfl ?_); refine gl_ (some 31) Try.func27 #[.slice A2 l2.length c2] ?_; (with_reducible refine (laws_toIntS.calls k _ _ l2 t533 _ ?side1 ?side2 A18.out).mono ?_); (case side1 => exact nc_ (Kd.C_below HR2.out HB.out)); (case side2 => exact HC2.out); rintro e w134 ⟨v534, rfl, ho0, hb⟩; refine ⟨_, rfl, ?_⟩; have HO535 := Aside0.mk (Kd.R_lower ho0 (eZ6 (ne_ HB.out))); replace HO529 := kR_ HO529 hb; replace HO532 := kR_ HO532 hb; replace BK523 := kb_ BK523 hb; replace HB := kB_ HB hb; (try clear hb); (try clear hb2); (try clear hk); (try clear hi); (try clear ho0); obtain ⟨Ao135, co135, eo135⟩ := Kd.R_slice HO529.out; subst eo135; obtain ⟨Ao136, co136, eo136⟩ := Kd.R_slice HO532.out; subst eo136; obtain ⟨Ao137, co137, eo137⟩ := Kd.R_slice HO535.out; subst eo137) | ((with_reducible refine gate_callee (f := 24) rfl ?_); refine gl_ (some 32) Try.func24 #[.agg #[.int .i64 t526, .slice Ao135 t527.length co135], .slice Ao136 t530.length co136, .slice Ao137 t533.length co137] ?_; (with_reducible refine (spec_TurnWalk.calls k t526 _ _ t527 _ _ t530 _ _ t533 t536 _ ?side1 ?side2 ?side3 ?side4 ?side5 ?side6 A19.out).mono ?_); (case side1 => exact nc_ (rR6 HO529.out).2.2); (case side2 => exact (rR6 HO529.out).2.1); (case side3 => exact nc_ (rR6 HO532.out).2.2); (case side4 => exact (rR6 HO532.out).2.1); (case side5 => exact nc_ (rR6 HO535.out).2.2); (case side6 => exact (rR6 HO535.out).2.1); rintro e w138 ⟨rfl, hb⟩; refine ⟨_, rfl, ?_⟩; replace HO529 := kR_ HO529 hb; replace HO532 := kR_ HO532 hb; replace HO535 := kR_ HO535 hb; replace BK523 := kb_ BK523 hb; replace HB := kB_ HB hb; (try clear hb); (try clear hb2); (try clear hk); (try clear hi); obtain ⟨hcz139_0, hcz139_1, hfz139_0, hfz139_1⟩ := cz2_ BK523.out) | ((with_reducible refine gate_callee (f := 18) rfl ?_); refine gl_ (some 34) Try.func18 #[.agg #[.int .i64 a0_0, .slice A0_1 l0_1.length c0_1]] ?_; (with_reducible refine (laws_toNet.calls k a0_0 _ _ l0_1 t537 t538 _ ?side1 ?side2 A20.out).mono ?_); (case side1 => exact nc_ (Kd.C_below HR0_1.out HB.out)); (case side2 => exact HC0_1.out); rintro e w140 ⟨v539, rfl, ho0, hb⟩; refine ⟨_, rfl, ?_⟩; have HO540 := Aside0.mk (Kd.R_lower (Kd.R_new' ho0 (Kd.R_lt (nr_ HO529.out))) (eZ6 (ne_ HB.out))); replace HO529 := Aside0.mk (Kd.R_elder' (nr_ HO529.out) (Kd.R_base ho0) hb); replace HO532 := kR_ HO532 hb; replace HO535 := kR_ HO535 hb; replace BK523 := kb_ BK523 hb; replace HB := kB_ HB hb; (try clear hb); (try clear hb2); (try clear hk); (try clear hi); (try clear ho0)) | ((with_reducible refine gate_dst (N := 9) rfl ?_); refine bx_ 9 #[.int .i64 0, .slice none 0 0] 25 ?_; intro gb541 hg w141 hbox hb; have BK541 := Aside0.mk (hbox); have GW541 := Aside0.mk (zs_ hg (ne_ HB.out)); have GE541 := Aside0.mk (zs_ hg (ne_ HB.out)); have NB523_541 := Aside0.mk (nl_ BK523.out hg); have NB541_523 := Aside0.mk (nm_ BK523.out hg); replace HO529 := kR_ HO529 hb; replace HO532 := kR_ HO532 hb; replace HO535 := kR_ HO535 hb; replace HO540 := kR_ HO540 hb; replace BK523 := kb_ BK523 hb; replace HB := kB_ HB hb; clear hb hbox hg; have hnb142 := NB541_523.out; have hnc142 := NB523_541.out; obtain ⟨hcz143_0, hcz143_1, hfz143_0, hfz143_1⟩ := cz2_ BK541.out; obtain ⟨Ao144, co144, eo144⟩ := Kd.R_slice HO540.out; subst eo144) | ((with_reducible refine gate_callee (f := 19) rfl ?_); refine gl_ (some 36) Try.func19 #[.slice A1 l1.length c1] ?_; (with_reducible refine (laws_toTurnS.calls k _ _ l1 t542 _ ?side1 ?side2 A21.out).mono ?_); (case side1 => exact Kd.C_below HR1.out (ne_ HB.out)); (case side2 => exact HC1.out); rintro e w145 ⟨v543, rfl, ho0, hb⟩; refine ⟨_, rfl, ?_⟩; have HO544 := Aside0.mk (Kd.R_lower (Kd.R_new' ho0 (Kd.R_lt (by (with_reducible repeat (first | apply Kd.R_alloc | apply Kd.R_drewN | apply rD6)); exact (Kd.R_mono (rf2_ (Kd.R_types HO532.out BK541.out (by decide))) (fun _ h_ => h_.1))))) (eZ6 (ne_ HB.out))); replace HO529 := Aside0.mk (rB6 (by (with_reducible repeat (first | apply Kd.R_alloc | apply Kd.R_drewN | apply rD6)); exact (Kd.R_mono (rf2_ (Kd.R_types HO529.out BK541.out (by decide))) (fun _ h_ => h_.1))) hb); replace HO532 := Aside0.mk (Kd.R_elder' (by (with_reducible repeat (first | apply Kd.R_alloc | apply Kd.R_drewN | apply rD6)); exact (Kd.R_mono (rf2_ (Kd.R_types HO532.out BK541.out (by decide))) (fun _ h_ => h_.1))) (Kd.R_base ho0) hb); replace HO535 := Aside0.mk (rB6 (by (with_reducible repeat (first | apply Kd.R_alloc | apply Kd.R_drewN | apply rD6)); exact (Kd.R_mono (rf2_ (Kd.R_types HO535.out BK541.out (by decide))) (fun _ h_ => h_.1))) hb); replace HO540 := Aside0.mk (rB6 (by (with_reducible repeat (first | apply Kd.R_alloc | apply Kd.R_drewN | apply rD6)); exact (Kd.R_mono (rf2_ (Kd.R_types HO540.out BK541.out (by decide))) (fun _ h_ => h_.1))) hb); replace BK523 := kf_ BK523 hb; replace BK541 := Aside0.mk (blk_below (g := gb541) (o := .cells #[.int .i64 t537, .slice Ao144 t538.length co144] 25 (0, 0)) (np_ BK541.out) hb); replace HB := kB_ HB hb; (try clear hb); (try clear hb2); (try clear hk); (try clear hi); (try clear ho0)) | ((with_reducible refine gate_callee (f := 27) rfl ?_); refine gl_ (some 38) Try.func27 #[.slice A2 l2.length c2] ?_; (with_reducible refine (laws_toIntS.calls k _ _ l2 t545 _ ?side1 ?side2 A22.out).mono ?_); (case side1 => exact nc_ (Kd.C_below HR2.out HB.out)); (case side2 => exact HC2.out); rintro e w146 ⟨v546, rfl, ho0, hb⟩; refine ⟨_, rfl, ?_⟩; have HO547 := Aside0.mk (Kd.R_lower (Kd.R_new' ho0 (Kd.R_lt (nr_ HO535.out))) (eZ6 (ne_ HB.out))); replace HO529 := kR_ HO529 hb; replace HO532 := kR_ HO532 hb; replace HO535 := Aside0.mk (Kd.R_elder' (nr_ HO535.out) (Kd.R_base ho0) hb); replace HO540 := kR_ HO540 hb; replace HO544 := kR_ HO544 hb; replace BK523 := kb_ BK523 hb; replace BK541 := kb_ BK541 hb; replace HB := kB_ HB hb; (try clear hb); (try clear hb2); (try clear hk); (try clear hi); (try clear ho0); obtain ⟨hcz147_0, hcz147_1, hfz147_0, hfz147_1⟩ := cz2_ BK541.out; obtain ⟨Ao148, co148, eo148⟩ := Kd.R_slice HO544.out; subst eo148; obtain ⟨Ao149, co149, eo149⟩ := Kd.R_slice HO547.out; subst eo149) | ((with_reducible refine gate_callee (f := 23) rfl ?_); refine gl_ (some 42) Try.func23 #[.agg #[.int .i64 t537, .slice Ao144 t538.length co144], .slice Ao148 t542.length co148, .slice Ao149 t545.length co149] ?_; (with_reducible refine (impl_TurnWalk.calls k t537 _ _ t538 _ _ t542 _ _ t545 t548 _ ?side1 ?side2 ?side3 ?side4 ?side5 ?side6 A23.out).mono ?_); (case side1 => exact nc_ (rR6 HO540.out).2.2); (case side2 => exact (rR6 HO540.out).2.1); (case side3 => exact nc_ (rR6 HO544.out).2.2); (case side4 => exact (rR6 HO544.out).2.1); (case side5 => exact nc_ (rR6 HO547.out).2.2); (case side6 => exact (rR6 HO547.out).2.1); rintro e w150 ⟨rfl, hb⟩; refine ⟨_, rfl, ?_⟩; replace HO529 := kR_ HO529 hb; replace HO532 := kR_ HO532 hb; replace HO535 := kR_ HO535 hb; replace HO540 := kR_ HO540 hb; replace HO544 := kR_ HO544 hb; replace HO547 := kR_ HO547 hb; replace BK523 := kb_ BK523 hb; replace BK541 := kb_ BK541 hb; replace HB := kB_ HB hb; (try clear hb); (try clear hb2); (try clear hk); (try clear hi)))
   have n0_ := Aside0.mk (rD6 HO529.out)
   have n1_ := Aside0.mk (rD6 HO532.out)
   have n2_ := Aside0.mk (rD6 HO535.out)
   have n3_ := Aside0.mk (rD6 HO540.out)
   have n4_ := Aside0.mk (rD6 HO544.out)
   have n5_ := Aside0.mk (rD6 HO547.out)
   have n6_ := Aside0.mk (blk_drew BK523.out)
   have n7_ := Aside0.mk (blk_drew BK541.out)
   have n8_ := Aside0.mk (below_drew1 HB.out)
   clear HO529
   clear HO532
   clear HO535
   clear HO540
   clear HO544
   clear HO547
   clear BK523
   clear BK541
   clear HB
   have HO529 := n0_
   have HO532 := n1_
   have HO535 := n2_
   have HO540 := n3_
   have HO544 := n4_
   have HO547 := n5_
   have BK523 := n6_
   have BK541 := n7_
   have HB := n8_
   clear n0_ n1_ n2_ n3_ n4_ n5_ n6_ n7_ n8_
   refine start_ (n := 5) (S := fun w' => w'.cell? ⟨gb541, 0, none⟩ = some (.int .i64 t537) ∧ w'.cell? ⟨gb541, 1, none⟩ = some (.slice Ao144 t538.length co144) ∧ w'.cell? ⟨gb523, 0, none⟩ = some (.int .i64 a0_0) ∧ w'.cell? ⟨gb523, 1, none⟩ = some (.slice A0_1 l0_1.length c0_1)) (ds := []) #[false, false, false, false, false] (by kernel_rfl) rfl rfl ⟨(bC6 BK541.out 0).trans rfl, (bC6 BK541.out 1).trans rfl, (bC6 BK523.out 0).trans rfl, (bC6 BK523.out 1).trans rfl⟩ (fun hHeld => ?_)
   generalize w150.drew = w151 at HO529 HO532 HO535 HO540 HO544 HO547 BK523 BK541 HB hHeld ⊢
   refine take_ (i := 0) (N := some 46) (v := ?_) (a' := ?_) #[true, false, false, false, false] rfl rfl (by kernel_rfl) (fun _ _ _ h => h) (Or.inl ⟨by rfl, ?_⟩) hHeld ?_ ?_
   rotate_left
   ·rintro w' ⟨s0, s1, s2, s3⟩
    go_simp
    with_reducible rfl
   rotate_left
   ·simp only [Act.put, List.setIfInBounds_toArray, List.set_cons_zero, List.set_cons_succ, i64_w, i32_w]
    rfl
   refine take_ (i := 1) (N := some 47) (v := ?_) (a' := ?_) #[true, true, false, false, false] rfl rfl (by kernel_rfl) (fun _ _ _ h => h) (Or.inl ⟨by rfl, ?_⟩) hHeld ?_ ?_
   rotate_left
   ·rintro w' ⟨s0, s1, s2, s3⟩
    go_simp
    with_reducible rfl
   rotate_left
   ·simp only [Act.put, List.setIfInBounds_toArray, List.set_cons_zero, List.set_cons_succ, i64_w, i32_w]
    rfl
   refine one_ (i := 2) (N := some 48) #[true, true, true, false, false] rfl rfl (by kernel_rfl) (by decide) (fun K hK => ?_)
   refine goes_ Try.func18 (by kernel_rfl) rfl #[.agg #[.int .i64 a0_0, .slice A0_1 l0_1.length c0_1]] (by rfl) rfl rfl na_ ?_
   with_reducible refine (laws_toNet.calls k a0_0 _ _ l0_1 t549 t550 _ ?side1 ?side2 A25.out).mono ?_
   (case side1 => exact nc_ (Kd.C_below HR0_1.out HB.out))
   (case side2 => exact HC0_1.out)
   rintro e w152 ⟨v551, rfl, ho0, hb⟩
   refine ⟨_, rfl, ?_⟩
   have n0_ := Aside0.mk (Kd.R_elder' (nr_ HO529.out) (Kd.R_base ho0) hb)
   have n1_ := Aside0.mk (rB6 (nr_ HO532.out) hb)
   have n2_ := Aside0.mk (rB6 (nr_ HO535.out) hb)
   have n3_ := Aside0.mk (Kd.R_elder' (nr_ HO540.out) (Kd.R_base ho0) hb)
   have n4_ := Aside0.mk (rB6 (nr_ HO544.out) hb)
   have n5_ := Aside0.mk (rB6 (nr_ HO547.out) hb)
   have n6_ := Aside0.mk (Kd.R_lower (Kd.R_new' (Kd.R_new' ho0 (Kd.R_lt (nr_ HO529.out))) (Kd.R_lt (nr_ HO540.out))) (eZ6 (ne_ HB.out)))
   have n7_ := Aside0.mk (blk_below (g := gb523) (o := .cells #[.int .i64 a0_0, .slice A0_1 l0_1.length c0_1] 37 (0, 0)) (nb_ BK523.out) hb)
   have n8_ := Aside0.mk (blk_below (g := gb541) (o := .cells #[.int .i64 t537, .slice Ao144 t538.length co144] 25 (0, 0)) (nb_ BK541.out) hb)
   have n9_ := Aside0.mk (below_step (ne_ HB.out) hb)
   clear HO529
   clear HO532
   clear HO535
   clear HO540
   clear HO544
   clear HO547
   clear BK523
   clear BK541
   clear HB
   have HO529 := n0_
   have HO532 := n1_
   have HO535 := n2_
   have HO540 := n3_
   have HO544 := n4_
   have HO547 := n5_
   have HO552 := n6_
   have BK523 := n7_
   have BK541 := n8_
   have HB := n9_
   clear n0_ n1_ n2_ n3_ n4_ n5_ n6_ n7_ n8_ n9_
   (try clear hb)
   (try clear hb2)
   (try clear hk)
   (try clear hi)
   (try clear ho0)
   obtain ⟨Ao153, co153, eo153⟩ := Kd.R_slice HO552.out
   (first | subst eo153 | (injection eo153 with f1_ f2_ f3_; have f4_ := f1_.symm; have f5_ := f3_.symm; clear f1_ f2_ f3_; subst f4_; subst f5_))
   refine hK.out _ _ ⟨(bC6 BK541.out 0).trans rfl, (bC6 BK541.out 1).trans rfl, (bC6 BK523.out 0).trans rfl, (bC6 BK523.out 1).trans rfl⟩ (fun hHeld => ?_)
   clear hK K
   refine norm_ (a' := ?_) ?_ ?_
   rotate_left
   ·show Act.put _ (some 48) _ = _
    simp only [Act.put, List.setIfInBounds_toArray, List.set_cons_zero, List.set_cons_succ, i64_w, i32_w]
    rfl
   refine one_ (i := 3) (N := some 49) #[true, true, true, true, false] rfl rfl (by kernel_rfl) (by decide) (fun K hK => ?_)
   refine goes_ Try.func20 (by kernel_rfl) rfl #[.agg #[.int .i64 t537, .slice Ao144 t538.length co144], .agg #[.int .i64 t549, .slice Ao153 t550.length co153]] (by rfl) rfl rfl na_ ?_
   with_reducible refine (laws_eqNet.calls k t537 _ _ t538 t549 _ _ t550 false _ ?side1 ?side2 ?side3 ?side4 A26.out).mono ?_
   (case side1 => exact nc_ (rR6 HO540.out).2.2)
   (case side2 => exact (rR6 HO540.out).2.1)
   (case side3 => exact nc_ (rR6 HO552.out).2.2)
   (case side4 => exact (rR6 HO552.out).2.1)
   rintro e w154 ⟨rfl, hb⟩
   refine ⟨_, rfl, ?_⟩
   have n0_ := Aside0.mk (rB6 (nr_ HO529.out) hb)
   have n1_ := Aside0.mk (rB6 (nr_ HO532.out) hb)
   have n2_ := Aside0.mk (rB6 (nr_ HO535.out) hb)
   have n3_ := Aside0.mk (rB6 (nr_ HO540.out) hb)
   have n4_ := Aside0.mk (rB6 (nr_ HO544.out) hb)
   have n5_ := Aside0.mk (rB6 (nr_ HO547.out) hb)
   have n6_ := Aside0.mk (rB6 (nr_ HO552.out) hb)
   have n7_ := Aside0.mk (blk_below (g := gb523) (o := .cells #[.int .i64 a0_0, .slice A0_1 l0_1.length c0_1] 37 (0, 0)) (nb_ BK523.out) hb)
   have n8_ := Aside0.mk (blk_below (g := gb541) (o := .cells #[.int .i64 t537, .slice Ao144 t538.length co144] 25 (0, 0)) (nb_ BK541.out) hb)
   have n9_ := Aside0.mk (below_step (ne_ HB.out) hb)
   clear HO529
   clear HO532
   clear HO535
   clear HO540
   clear HO544
   clear HO547
   clear HO552
   clear BK523
   clear BK541
   clear HB
   have HO529 := n0_
   have HO532 := n1_
   have HO535 := n2_
   have HO540 := n3_
   have HO544 := n4_
   have HO547 := n5_
   have HO552 := n6_
   have BK523 := n7_
   have BK541 := n8_
   have HB := n9_
   clear n0_ n1_ n2_ n3_ n4_ n5_ n6_ n7_ n8_ n9_
   (try clear hb)
   (try clear hb2)
   (try clear hk)
   (try clear hi)
   refine hK.out _ _ ⟨(bC6 BK541.out 0).trans rfl, (bC6 BK541.out 1).trans rfl, (bC6 BK523.out 0).trans rfl, (bC6 BK523.out 1).trans rfl⟩ (fun hHeld => ?_)
   clear hK K
   refine norm_ (a' := ?_) ?_ ?_
   rotate_left
   ·show Act.put _ (some 49) _ = _
    simp only [Act.put, List.setIfInBounds_toArray, List.set_cons_zero, List.set_cons_succ, i64_w, i32_w]
    rfl
   refine pure_ (i := 4) (N := some 50) (v := ?_) (a' := ?_) #[true, true, true, true, true] rfl rfl (by kernel_rfl) (fun _ _ _ h => h) (Or.inl ⟨by rfl, ?_⟩) ?_ ?_
   rotate_left
   ·intro w'
    go_simp
    with_reducible rfl
   rotate_left
   ·simp only [Act.put, List.setIfInBounds_toArray, List.set_cons_zero, List.set_cons_succ, i64_w, i32_w]
    rfl
   refine done_ (by kernel_rfl) ?_
   try go_wp2
   go_ret
   exact ⟨nw_, ne_ HB.out⟩
  subst c27
  have H1 : ((laws_toTurnS.f k l1).bind fun t554 => ((laws_eqTurnS.f k t542 t554).bind fun t557 => (if t557 = true then ((laws_toIntS.f k l2).bind fun t558 => ((laws_eqIntS.f k t545 t558).bind fun t561 => (if t561 = true then (some true) else (some false)))) else (some false)))) = some r := by rw [if_pos rfl] at H; exact H
  clear H
  have H := H1
  clear H1
  replace H := Option.bind_eq_some_iff.mp H
  obtain ⟨t554, A280, H⟩ := H
  replace H : ((laws_eqTurnS.f k t542 t554).bind fun t557 => (if t557 = true then ((laws_toIntS.f k l2).bind fun t558 => ((laws_eqIntS.f k t545 t558).bind fun t561 => (if t561 = true then (some true) else (some false)))) else (some false))) = some r := H
  have A28 := Aside0.mk A280
  clear A280
  replace H := Option.bind_eq_some_iff.mp H
  obtain ⟨t557, A290, H⟩ := H
  replace H : (if t557 = true then ((laws_toIntS.f k l2).bind fun t558 => ((laws_eqIntS.f k t545 t558).bind fun t561 => (if t561 = true then (some true) else (some false)))) else (some false)) = some r := H
  have A29 := Aside0.mk A290
  clear A290
  by_cases c30 : t557 = true
  rotate_left
  ·replace c30 := Bool.eq_false_iff.mpr c30
   subst c30
   have H1 : (some false) = some r := by rw [if_neg (show ¬ (false = true) by decide)] at H; exact H
   clear H
   have H := H1
   clear H1
   obtain rfl := Option.some.inj H
   go_enter Try.func6, Try.ntmps6
   try go_wp2_with (first | ((with_reducible refine gate_dst (N := 3) rfl ?_); refine bx_ 3 #[.int .i64 a0_0, .slice A0_1 l0_1.length c0_1] 37 ?_; intro gb523 hg w98 hbox hb; have BK523 := Aside0.mk (hbox); have GW523 := Aside0.mk (zs_ hg (ne_ HB.out)); have GE523 := Aside0.mk (zs_ hg (ne_ HB.out)); replace HB := kB_ HB hb; clear hb hbox hg; obtain ⟨hcz99_0, hcz99_1, hfz99_0, hfz99_1⟩ := cz2_ BK523.out) | ((with_reducible refine gate_callee (f := 16) rfl ?_); refine gl_ (some 18) Try.func16 #[.agg #[.int .i64 a0_0, .slice A0_1 l0_1.length c0_1], .int .i64 1048576] ?_; (with_reducible refine (laws_szNet.calls a0_0 _ _ l0_1 1048576 t524 _ ?side1 ?side2 A6.out).mono ?_); (case side1 => exact nc_ (Kd.C_below HR0_1.out HB.out)); (case side2 => exact HC0_1.out); rintro e w100 ⟨rfl, hb⟩; refine ⟨_, rfl, ?_⟩; replace BK523 := kb_ BK523 hb; replace HB := kB_ HB hb; (try clear hb); (try clear hb2); (try clear hk); (try clear hi)) | ((with_reducible refine gate_callee (f := 17) rfl ?_); refine gl_ (some 23) Try.func17 #[.slice A1 l1.length c1, .int .i64 t524] ?_; (with_reducible refine (laws_szTurnS.calls _ _ l1 t524 t525 _ ?side1 ?side2 A11.out).mono ?_); (case side1 => exact nc_ (Kd.C_below HR1.out HB.out)); (case side2 => exact HC1.out); rintro e w' ⟨rfl, ⟨nd, rfl⟩⟩; refine ⟨_, rfl, ?_⟩; (first | (rw [drewN_self w100]; generalize hq_ : World.drewN w100 _ = w100; replace BK523 : Aside0 (w100.heap[gb523]? = some (.cells #[.int .i64 a0_0, .slice A0_1 l0_1.length c0_1] 37 (0, 0))) := ⟨by rw [← hq_]; exact (nb_ BK523.out)⟩; replace HB : Aside0 (Below w.heap.size w w100) := ⟨by rw [← hq_]; exact (ne_ HB.out)⟩; clear hq_) | (have n0_ : Aside0 (w100.heap[gb523]? = some (.cells #[.int .i64 a0_0, .slice A0_1 l0_1.length c0_1] 37 (0, 0))) := ⟨(nb_ BK523.out)⟩; have n1_ : Aside0 (Below w.heap.size w w100) := ⟨(ne_ HB.out)⟩; clear BK523 HB; have BK523 := n0_; have HB := n1_; clear n0_ n1_)); obtain ⟨hcz101_0, hcz101_1, hfz101_0, hfz101_1⟩ := cz2_ BK523.out) | ((with_reducible refine gate_callee (f := 18) rfl ?_); refine gl_ (some 27) Try.func18 #[.agg #[.int .i64 a0_0, .slice A0_1 l0_1.length c0_1]] ?_; (with_reducible refine (laws_toNet.calls k a0_0 _ _ l0_1 t526 t527 _ ?side1 ?side2 A16.out).mono ?_); (case side1 => exact nc_ (Kd.C_below HR0_1.out HB.out)); (case side2 => exact HC0_1.out); rintro e w102 ⟨v528, rfl, ho0, hb⟩; refine ⟨_, rfl, ?_⟩; have HO529 := Aside0.mk (Kd.R_lower ho0 (eZ6 (ne_ HB.out))); replace BK523 := kb_ BK523 hb; replace HB := kB_ HB hb; (try clear hb); (try clear hb2); (try clear hk); (try clear hi); (try clear ho0)) | ((with_reducible refine gate_callee (f := 19) rfl ?_); refine gl_ (some 29) Try.func19 #[.slice A1 l1.length c1] ?_; (with_reducible refine (laws_toTurnS.calls k _ _ l1 t530 _ ?side1 ?side2 A17.out).mono ?_); (case side1 => exact nc_ (Kd.C_below HR1.out HB.out)); (case side2 => exact HC1.out); rintro e w103 ⟨v531, rfl, ho0, hb⟩; refine ⟨_, rfl, ?_⟩; have HO532 := Aside0.mk (Kd.R_lower ho0 (eZ6 (ne_ HB.out))); replace HO529 := kR_ HO529 hb; replace BK523 := kb_ BK523 hb; replace HB := kB_ HB hb; (try clear hb); (try clear hb2); (try clear hk); (try clear hi); (try clear ho0)) | ((with_reducible refine gate_callee (f := 27) rfl ?_); refine gl_ (some 31) Try.func27 #[.slice A2 l2.length c2] ?_; (with_reducible refine (laws_toIntS.calls k _ _ l2 t533 _ ?side1 ?side2 A18.out).mono ?_); (case side1 => exact nc_ (Kd.C_below HR2.out HB.out)); (case side2 => exact HC2.out); rintro e w104 ⟨v534, rfl, ho0, hb⟩; refine ⟨_, rfl, ?_⟩; have HO535 := Aside0.mk (Kd.R_lower ho0 (eZ6 (ne_ HB.out))); replace HO529 := kR_ HO529 hb; replace HO532 := kR_ HO532 hb; replace BK523 := kb_ BK523 hb; replace HB := kB_ HB hb; (try clear hb); (try clear hb2); (try clear hk); (try clear hi); (try clear ho0); obtain ⟨Ao105, co105, eo105⟩ := Kd.R_slice HO529.out; subst eo105; obtain ⟨Ao106, co106, eo106⟩ := Kd.R_slice HO532.out; subst eo106; obtain ⟨Ao107, co107, eo107⟩ := Kd.R_slice HO535.out; subst eo107) | ((with_reducible refine gate_callee (f := 24) rfl ?_); refine gl_ (some 32) Try.func24 #[.agg #[.int .i64 t526, .slice Ao105 t527.length co105], .slice Ao106 t530.length co106, .slice Ao107 t533.length co107] ?_; (with_reducible refine (spec_TurnWalk.calls k t526 _ _ t527 _ _ t530 _ _ t533 t536 _ ?side1 ?side2 ?side3 ?side4 ?side5 ?side6 A19.out).mono ?_); (case side1 => exact nc_ (rR6 HO529.out).2.2); (case side2 => exact (rR6 HO529.out).2.1); (case side3 => exact nc_ (rR6 HO532.out).2.2); (case side4 => exact (rR6 HO532.out).2.1); (case side5 => exact nc_ (rR6 HO535.out).2.2); (case side6 => exact (rR6 HO535.out).2.1); rintro e w108 ⟨rfl, hb⟩; refine ⟨_, rfl, ?_⟩; replace HO529 := kR_ HO529 hb; replace HO532 := kR_ HO532 hb; replace HO535 := kR_ HO535 hb; replace BK523 := kb_ BK523 hb; replace HB := kB_ HB hb; (try clear hb); (try clear hb2); (try clear hk); (try clear hi); obtain ⟨hcz109_0, hcz109_1, hfz109_0, hfz109_1⟩ := cz2_ BK523.out) | ((with_reducible refine gate_callee (f := 18) rfl ?_); refine gl_ (some 34) Try.func18 #[.agg #[.int .i64 a0_0, .slice A0_1 l0_1.length c0_1]] ?_; (with_reducible refine (laws_toNet.calls k a0_0 _ _ l0_1 t537 t538 _ ?side1 ?side2 A20.out).mono ?_); (case side1 => exact nc_ (Kd.C_below HR0_1.out HB.out)); (case side2 => exact HC0_1.out); rintro e w110 ⟨v539, rfl, ho0, hb⟩; refine ⟨_, rfl, ?_⟩; have HO540 := Aside0.mk (Kd.R_lower (Kd.R_new' ho0 (Kd.R_lt (nr_ HO529.out))) (eZ6 (ne_ HB.out))); replace HO529 := Aside0.mk (Kd.R_elder' (nr_ HO529.out) (Kd.R_base ho0) hb); replace HO532 := kR_ HO532 hb; replace HO535 := kR_ HO535 hb; replace BK523 := kb_ BK523 hb; replace HB := kB_ HB hb; (try clear hb); (try clear hb2); (try clear hk); (try clear hi); (try clear ho0)) | ((with_reducible refine gate_dst (N := 9) rfl ?_); refine bx_ 9 #[.int .i64 0, .slice none 0 0] 25 ?_; intro gb541 hg w111 hbox hb; have BK541 := Aside0.mk (hbox); have GW541 := Aside0.mk (zs_ hg (ne_ HB.out)); have GE541 := Aside0.mk (zs_ hg (ne_ HB.out)); have NB523_541 := Aside0.mk (nl_ BK523.out hg); have NB541_523 := Aside0.mk (nm_ BK523.out hg); replace HO529 := kR_ HO529 hb; replace HO532 := kR_ HO532 hb; replace HO535 := kR_ HO535 hb; replace HO540 := kR_ HO540 hb; replace BK523 := kb_ BK523 hb; replace HB := kB_ HB hb; clear hb hbox hg; have hnb112 := NB541_523.out; have hnc112 := NB523_541.out; obtain ⟨hcz113_0, hcz113_1, hfz113_0, hfz113_1⟩ := cz2_ BK541.out; obtain ⟨Ao114, co114, eo114⟩ := Kd.R_slice HO540.out; subst eo114) | ((with_reducible refine gate_callee (f := 19) rfl ?_); refine gl_ (some 36) Try.func19 #[.slice A1 l1.length c1] ?_; (with_reducible refine (laws_toTurnS.calls k _ _ l1 t542 _ ?side1 ?side2 A21.out).mono ?_); (case side1 => exact Kd.C_below HR1.out (ne_ HB.out)); (case side2 => exact HC1.out); rintro e w115 ⟨v543, rfl, ho0, hb⟩; refine ⟨_, rfl, ?_⟩; have HO544 := Aside0.mk (Kd.R_lower (Kd.R_new' ho0 (Kd.R_lt (by (with_reducible repeat (first | apply Kd.R_alloc | apply Kd.R_drewN | apply rD6)); exact (Kd.R_mono (rf2_ (Kd.R_types HO532.out BK541.out (by decide))) (fun _ h_ => h_.1))))) (eZ6 (ne_ HB.out))); replace HO529 := Aside0.mk (rB6 (by (with_reducible repeat (first | apply Kd.R_alloc | apply Kd.R_drewN | apply rD6)); exact (Kd.R_mono (rf2_ (Kd.R_types HO529.out BK541.out (by decide))) (fun _ h_ => h_.1))) hb); replace HO532 := Aside0.mk (Kd.R_elder' (by (with_reducible repeat (first | apply Kd.R_alloc | apply Kd.R_drewN | apply rD6)); exact (Kd.R_mono (rf2_ (Kd.R_types HO532.out BK541.out (by decide))) (fun _ h_ => h_.1))) (Kd.R_base ho0) hb); replace HO535 := Aside0.mk (rB6 (by (with_reducible repeat (first | apply Kd.R_alloc | apply Kd.R_drewN | apply rD6)); exact (Kd.R_mono (rf2_ (Kd.R_types HO535.out BK541.out (by decide))) (fun _ h_ => h_.1))) hb); replace HO540 := Aside0.mk (rB6 (by (with_reducible repeat (first | apply Kd.R_alloc | apply Kd.R_drewN | apply rD6)); exact (Kd.R_mono (rf2_ (Kd.R_types HO540.out BK541.out (by decide))) (fun _ h_ => h_.1))) hb); replace BK523 := kf_ BK523 hb; replace BK541 := Aside0.mk (blk_below (g := gb541) (o := .cells #[.int .i64 t537, .slice Ao114 t538.length co114] 25 (0, 0)) (np_ BK541.out) hb); replace HB := kB_ HB hb; (try clear hb); (try clear hb2); (try clear hk); (try clear hi); (try clear ho0)) | ((with_reducible refine gate_callee (f := 27) rfl ?_); refine gl_ (some 38) Try.func27 #[.slice A2 l2.length c2] ?_; (with_reducible refine (laws_toIntS.calls k _ _ l2 t545 _ ?side1 ?side2 A22.out).mono ?_); (case side1 => exact nc_ (Kd.C_below HR2.out HB.out)); (case side2 => exact HC2.out); rintro e w116 ⟨v546, rfl, ho0, hb⟩; refine ⟨_, rfl, ?_⟩; have HO547 := Aside0.mk (Kd.R_lower (Kd.R_new' ho0 (Kd.R_lt (nr_ HO535.out))) (eZ6 (ne_ HB.out))); replace HO529 := kR_ HO529 hb; replace HO532 := kR_ HO532 hb; replace HO535 := Aside0.mk (Kd.R_elder' (nr_ HO535.out) (Kd.R_base ho0) hb); replace HO540 := kR_ HO540 hb; replace HO544 := kR_ HO544 hb; replace BK523 := kb_ BK523 hb; replace BK541 := kb_ BK541 hb; replace HB := kB_ HB hb; (try clear hb); (try clear hb2); (try clear hk); (try clear hi); (try clear ho0); obtain ⟨hcz117_0, hcz117_1, hfz117_0, hfz117_1⟩ := cz2_ BK541.out; obtain ⟨Ao118, co118, eo118⟩ := Kd.R_slice HO544.out; subst eo118; obtain ⟨Ao119, co119, eo119⟩ := Kd.R_slice HO547.out; subst eo119) | ((with_reducible refine gate_callee (f := 23) rfl ?_); refine gl_ (some 42) Try.func23 #[.agg #[.int .i64 t537, .slice Ao114 t538.length co114], .slice Ao118 t542.length co118, .slice Ao119 t545.length co119] ?_; (with_reducible refine (impl_TurnWalk.calls k t537 _ _ t538 _ _ t542 _ _ t545 t548 _ ?side1 ?side2 ?side3 ?side4 ?side5 ?side6 A23.out).mono ?_); (case side1 => exact nc_ (rR6 HO540.out).2.2); (case side2 => exact (rR6 HO540.out).2.1); (case side3 => exact nc_ (rR6 HO544.out).2.2); (case side4 => exact (rR6 HO544.out).2.1); (case side5 => exact nc_ (rR6 HO547.out).2.2); (case side6 => exact (rR6 HO547.out).2.1); rintro e w120 ⟨rfl, hb⟩; refine ⟨_, rfl, ?_⟩; replace HO529 := kR_ HO529 hb; replace HO532 := kR_ HO532 hb; replace HO535 := kR_ HO535 hb; replace HO540 := kR_ HO540 hb; replace HO544 := kR_ HO544 hb; replace HO547 := kR_ HO547 hb; replace BK523 := kb_ BK523 hb; replace BK541 := kb_ BK541 hb; replace HB := kB_ HB hb; (try clear hb); (try clear hb2); (try clear hk); (try clear hi)))
   have n0_ := Aside0.mk (rD6 HO529.out)
   have n1_ := Aside0.mk (rD6 HO532.out)
   have n2_ := Aside0.mk (rD6 HO535.out)
   have n3_ := Aside0.mk (rD6 HO540.out)
   have n4_ := Aside0.mk (rD6 HO544.out)
   have n5_ := Aside0.mk (rD6 HO547.out)
   have n6_ := Aside0.mk (blk_drew BK523.out)
   have n7_ := Aside0.mk (blk_drew BK541.out)
   have n8_ := Aside0.mk (below_drew1 HB.out)
   clear HO529
   clear HO532
   clear HO535
   clear HO540
   clear HO544
   clear HO547
   clear BK523
   clear BK541
   clear HB
   have HO529 := n0_
   have HO532 := n1_
   have HO535 := n2_
   have HO540 := n3_
   have HO544 := n4_
   have HO547 := n5_
   have BK523 := n6_
   have BK541 := n7_
   have HB := n8_
   clear n0_ n1_ n2_ n3_ n4_ n5_ n6_ n7_ n8_
   refine start_ (n := 5) (S := fun w' => w'.cell? ⟨gb541, 0, none⟩ = some (.int .i64 t537) ∧ w'.cell? ⟨gb541, 1, none⟩ = some (.slice Ao114 t538.length co114) ∧ w'.cell? ⟨gb523, 0, none⟩ = some (.int .i64 a0_0) ∧ w'.cell? ⟨gb523, 1, none⟩ = some (.slice A0_1 l0_1.length c0_1)) (ds := []) #[false, false, false, false, false] (by kernel_rfl) rfl rfl ⟨(bC6 BK541.out 0).trans rfl, (bC6 BK541.out 1).trans rfl, (bC6 BK523.out 0).trans rfl, (bC6 BK523.out 1).trans rfl⟩ (fun hHeld => ?_)
   generalize w120.drew = w121 at HO529 HO532 HO535 HO540 HO544 HO547 BK523 BK541 HB hHeld ⊢
   refine take_ (i := 0) (N := some 46) (v := ?_) (a' := ?_) #[true, false, false, false, false] rfl rfl (by kernel_rfl) (fun _ _ _ h => h) (Or.inl ⟨by rfl, ?_⟩) hHeld ?_ ?_
   rotate_left
   ·rintro w' ⟨s0, s1, s2, s3⟩
    go_simp
    with_reducible rfl
   rotate_left
   ·simp only [Act.put, List.setIfInBounds_toArray, List.set_cons_zero, List.set_cons_succ, i64_w, i32_w]
    rfl
   refine take_ (i := 1) (N := some 47) (v := ?_) (a' := ?_) #[true, true, false, false, false] rfl rfl (by kernel_rfl) (fun _ _ _ h => h) (Or.inl ⟨by rfl, ?_⟩) hHeld ?_ ?_
   rotate_left
   ·rintro w' ⟨s0, s1, s2, s3⟩
    go_simp
    with_reducible rfl
   rotate_left
   ·simp only [Act.put, List.setIfInBounds_toArray, List.set_cons_zero, List.set_cons_succ, i64_w, i32_w]
    rfl
   refine one_ (i := 2) (N := some 48) #[true, true, true, false, false] rfl rfl (by kernel_rfl) (by decide) (fun K hK => ?_)
   refine goes_ Try.func18 (by kernel_rfl) rfl #[.agg #[.int .i64 a0_0, .slice A0_1 l0_1.length c0_1]] (by rfl) rfl rfl na_ ?_
   with_reducible refine (laws_toNet.calls k a0_0 _ _ l0_1 t549 t550 _ ?side1 ?side2 A25.out).mono ?_
   (case side1 => exact nc_ (Kd.C_below HR0_1.out HB.out))
   (case side2 => exact HC0_1.out)
   rintro e w122 ⟨v551, rfl, ho0, hb⟩
   refine ⟨_, rfl, ?_⟩
   have n0_ := Aside0.mk (Kd.R_elder' (nr_ HO529.out) (Kd.R_base ho0) hb)
   have n1_ := Aside0.mk (rB6 (nr_ HO532.out) hb)
   have n2_ := Aside0.mk (rB6 (nr_ HO535.out) hb)
   have n3_ := Aside0.mk (Kd.R_elder' (nr_ HO540.out) (Kd.R_base ho0) hb)
   have n4_ := Aside0.mk (rB6 (nr_ HO544.out) hb)
   have n5_ := Aside0.mk (rB6 (nr_ HO547.out) hb)
   have n6_ := Aside0.mk (Kd.R_lower (Kd.R_new' (Kd.R_new' ho0 (Kd.R_lt (nr_ HO529.out))) (Kd.R_lt (nr_ HO540.out))) (eZ6 (ne_ HB.out)))
   have n7_ := Aside0.mk (blk_below (g := gb523) (o := .cells #[.int .i64 a0_0, .slice A0_1 l0_1.length c0_1] 37 (0, 0)) (nb_ BK523.out) hb)
   have n8_ := Aside0.mk (blk_below (g := gb541) (o := .cells #[.int .i64 t537, .slice Ao114 t538.length co114] 25 (0, 0)) (nb_ BK541.out) hb)
   have n9_ := Aside0.mk (below_step (ne_ HB.out) hb)
   clear HO529
   clear HO532
   clear HO535
   clear HO540
   clear HO544
   clear HO547
   clear BK523
   clear BK541
   clear HB
   have HO529 := n0_
   have HO532 := n1_
   have HO535 := n2_
   have HO540 := n3_
   have HO544 := n4_
   have HO547 := n5_
   have HO552 := n6_
   have BK523 := n7_
   have BK541 := n8_
   have HB := n9_
   clear n0_ n1_ n2_ n3_ n4_ n5_ n6_ n7_ n8_ n9_
   (try clear hb)
   (try clear hb2)
   (try clear hk)
   (try clear hi)
   (try clear ho0)
   obtain ⟨Ao123, co123, eo123⟩ := Kd.R_slice HO552.out
   (first | subst eo123 | (injection eo123 with f1_ f2_ f3_; have f4_ := f1_.symm; have f5_ := f3_.symm; clear f1_ f2_ f3_; subst f4_; subst f5_))
   refine hK.out _ _ ⟨(bC6 BK541.out 0).trans rfl, (bC6 BK541.out 1).trans rfl, (bC6 BK523.out 0).trans rfl, (bC6 BK523.out 1).trans rfl⟩ (fun hHeld => ?_)
   clear hK K
   refine norm_ (a' := ?_) ?_ ?_
   rotate_left
   ·show Act.put _ (some 48) _ = _
    simp only [Act.put, List.setIfInBounds_toArray, List.set_cons_zero, List.set_cons_succ, i64_w, i32_w]
    rfl
   refine one_ (i := 3) (N := some 49) #[true, true, true, true, false] rfl rfl (by kernel_rfl) (by decide) (fun K hK => ?_)
   refine goes_ Try.func20 (by kernel_rfl) rfl #[.agg #[.int .i64 t537, .slice Ao114 t538.length co114], .agg #[.int .i64 t549, .slice Ao123 t550.length co123]] (by rfl) rfl rfl na_ ?_
   with_reducible refine (laws_eqNet.calls k t537 _ _ t538 t549 _ _ t550 true _ ?side1 ?side2 ?side3 ?side4 A26.out).mono ?_
   (case side1 => exact nc_ (rR6 HO540.out).2.2)
   (case side2 => exact (rR6 HO540.out).2.1)
   (case side3 => exact nc_ (rR6 HO552.out).2.2)
   (case side4 => exact (rR6 HO552.out).2.1)
   rintro e w124 ⟨rfl, hb⟩
   refine ⟨_, rfl, ?_⟩
   have n0_ := Aside0.mk (rB6 (nr_ HO529.out) hb)
   have n1_ := Aside0.mk (rB6 (nr_ HO532.out) hb)
   have n2_ := Aside0.mk (rB6 (nr_ HO535.out) hb)
   have n3_ := Aside0.mk (rB6 (nr_ HO540.out) hb)
   have n4_ := Aside0.mk (rB6 (nr_ HO544.out) hb)
   have n5_ := Aside0.mk (rB6 (nr_ HO547.out) hb)
   have n6_ := Aside0.mk (rB6 (nr_ HO552.out) hb)
   have n7_ := Aside0.mk (blk_below (g := gb523) (o := .cells #[.int .i64 a0_0, .slice A0_1 l0_1.length c0_1] 37 (0, 0)) (nb_ BK523.out) hb)
   have n8_ := Aside0.mk (blk_below (g := gb541) (o := .cells #[.int .i64 t537, .slice Ao114 t538.length co114] 25 (0, 0)) (nb_ BK541.out) hb)
   have n9_ := Aside0.mk (below_step (ne_ HB.out) hb)
   clear HO529
   clear HO532
   clear HO535
   clear HO540
   clear HO544
   clear HO547
   clear HO552
   clear BK523
   clear BK541
   clear HB
   have HO529 := n0_
   have HO532 := n1_
   have HO535 := n2_
   have HO540 := n3_
   have HO544 := n4_
   have HO547 := n5_
   have HO552 := n6_
   have BK523 := n7_
   have BK541 := n8_
   have HB := n9_
   clear n0_ n1_ n2_ n3_ n4_ n5_ n6_ n7_ n8_ n9_
   (try clear hb)
   (try clear hb2)
   (try clear hk)
   (try clear hi)
   refine hK.out _ _ ⟨(bC6 BK541.out 0).trans rfl, (bC6 BK541.out 1).trans rfl, (bC6 BK523.out 0).trans rfl, (bC6 BK523.out 1).trans rfl⟩ (fun hHeld => ?_)
   clear hK K
   refine norm_ (a' := ?_) ?_ ?_
   rotate_left
   ·show Act.put _ (some 49) _ = _
    simp only [Act.put, List.setIfInBounds_toArray, List.set_cons_zero, List.set_cons_succ, i64_w, i32_w]
    rfl
   refine pure_ (i := 4) (N := some 50) (v := ?_) (a' := ?_) #[true, true, true, true, true] rfl rfl (by kernel_rfl) (fun _ _ _ h => h) (Or.inl ⟨by rfl, ?_⟩) ?_ ?_
   rotate_left
   ·intro w'
    go_simp
    with_reducible rfl
   rotate_left
   ·simp only [Act.put, List.setIfInBounds_toArray, List.set_cons_zero, List.set_cons_succ, i64_w, i32_w]
    rfl
   refine done_ (by kernel_rfl) ?_
   try go_wp2_with (first | ((with_reducible refine gate_callee (f := 19) rfl ?_); refine gl_ (some 53) Try.func19 #[.slice A1 l1.length c1] ?_; (with_reducible refine (laws_toTurnS.calls k _ _ l1 t554 _ ?side1 ?side2 A28.out).mono ?_); (case side1 => exact nc_ (Kd.C_below HR1.out HB.out)); (case side2 => exact HC1.out); rintro e w125 ⟨v555, rfl, ho0, hb⟩; refine ⟨_, rfl, ?_⟩; have HO556 := Aside0.mk (Kd.R_lower (Kd.R_new' (Kd.R_new' ho0 (Kd.R_lt (nr_ HO532.out))) (Kd.R_lt (nr_ HO544.out))) (eZ6 (ne_ HB.out))); replace HO529 := kR_ HO529 hb; replace HO532 := Aside0.mk (Kd.R_elder' (nr_ HO532.out) (Kd.R_base ho0) hb); replace HO535 := kR_ HO535 hb; replace HO540 := kR_ HO540 hb; replace HO544 := Aside0.mk (Kd.R_elder' (nr_ HO544.out) (Kd.R_base ho0) hb); replace HO547 := kR_ HO547 hb; replace HO552 := kR_ HO552 hb; replace BK523 := kb_ BK523 hb; replace BK541 := kb_ BK541 hb; replace HB := kB_ HB hb; (try clear hb); (try clear hb2); (try clear hk); (try clear hi); (try clear ho0); obtain ⟨Ao126, co126, eo126⟩ := Kd.R_slice HO556.out; subst eo126) | ((with_reducible refine gate_callee (f := 21) rfl ?_); refine gl_ (some 54) Try.func21 #[.slice Ao118 t542.length co118, .slice Ao126 t554.length co126] ?_; (with_reducible refine (laws_eqTurnS.calls k _ _ t542 _ _ t554 false _ ?side1 ?side2 ?side3 ?side4 A29.out).mono ?_); (case side1 => exact nc_ (rR6 HO544.out).2.2); (case side2 => exact (rR6 HO544.out).2.1); (case side3 => exact nc_ (rR6 HO556.out).2.2); (case side4 => exact (rR6 HO556.out).2.1); rintro e w127 ⟨rfl, hb⟩; refine ⟨_, rfl, ?_⟩; replace HO529 := kR_ HO529 hb; replace HO532 := kR_ HO532 hb; replace HO535 := kR_ HO535 hb; replace HO540 := kR_ HO540 hb; replace HO544 := kR_ HO544 hb; replace HO547 := kR_ HO547 hb; replace HO552 := kR_ HO552 hb; replace HO556 := kR_ HO556 hb; replace BK523 := kb_ BK523 hb; replace BK541 := kb_ BK541 hb; replace HB := kB_ HB hb; (try clear hb); (try clear hb2); (try clear hk); (try clear hi)))
   go_ret
   exact ⟨nw_, ne_ HB.out⟩
  subst c30
  have H1 : ((laws_toIntS.f k l2).bind fun t558 => ((laws_eqIntS.f k t545 t558).bind fun t561 => (if t561 = true then (some true) else (some false)))) = some r := by rw [if_pos rfl] at H; exact H
  clear H
  have H := H1
  clear H1
  replace H := Option.bind_eq_some_iff.mp H
  obtain ⟨t558, A310, H⟩ := H
  replace H : ((laws_eqIntS.f k t545 t558).bind fun t561 => (if t561 = true then (some true) else (some false))) = some r := H
  have A31 := Aside0.mk A310
  clear A310
  replace H := Option.bind_eq_some_iff.mp H
  obtain ⟨t561, A320, H⟩ := H
  replace H : (if t561 = true then (some true) else (some false)) = some r := H
  have A32 := Aside0.mk A320
  clear A320
  by_cases c33 : t561 = true
  ·subst c33
   have H1 : (some true) = some r := by rw [if_pos rfl] at H; exact H
   clear H
   have H := H1
   clear H1
   obtain rfl := Option.some.inj H
   go_enter Try.func6, Try.ntmps6
   try go_wp2_with (first | ((with_reducible refine gate_dst (N := 3) rfl ?_); refine bx_ 3 #[.int .i64 a0_0, .slice A0_1 l0_1.length c0_1] 37 ?_; intro gb523 hg w34 hbox hb; have BK523 := Aside0.mk (hbox); have GW523 := Aside0.mk (zs_ hg (ne_ HB.out)); have GE523 := Aside0.mk (zs_ hg (ne_ HB.out)); replace HB := kB_ HB hb; clear hb hbox hg; obtain ⟨hcz35_0, hcz35_1, hfz35_0, hfz35_1⟩ := cz2_ BK523.out) | ((with_reducible refine gate_callee (f := 16) rfl ?_); refine gl_ (some 18) Try.func16 #[.agg #[.int .i64 a0_0, .slice A0_1 l0_1.length c0_1], .int .i64 1048576] ?_; (with_reducible refine (laws_szNet.calls a0_0 _ _ l0_1 1048576 t524 _ ?side1 ?side2 A6.out).mono ?_); (case side1 => exact nc_ (Kd.C_below HR0_1.out HB.out)); (case side2 => exact HC0_1.out); rintro e w36 ⟨rfl, hb⟩; refine ⟨_, rfl, ?_⟩; replace BK523 := kb_ BK523 hb; replace HB := kB_ HB hb; (try clear hb); (try clear hb2); (try clear hk); (try clear hi)) | ((with_reducible refine gate_callee (f := 17) rfl ?_); refine gl_ (some 23) Try.func17 #[.slice A1 l1.length c1, .int .i64 t524] ?_; (with_reducible refine (laws_szTurnS.calls _ _ l1 t524 t525 _ ?side1 ?side2 A11.out).mono ?_); (case side1 => exact nc_ (Kd.C_below HR1.out HB.out)); (case side2 => exact HC1.out); rintro e w' ⟨rfl, ⟨nd, rfl⟩⟩; refine ⟨_, rfl, ?_⟩; (first | (rw [drewN_self w36]; generalize hq_ : World.drewN w36 _ = w36; replace BK523 : Aside0 (w36.heap[gb523]? = some (.cells #[.int .i64 a0_0, .slice A0_1 l0_1.length c0_1] 37 (0, 0))) := ⟨by rw [← hq_]; exact (nb_ BK523.out)⟩; replace HB : Aside0 (Below w.heap.size w w36) := ⟨by rw [← hq_]; exact (ne_ HB.out)⟩; clear hq_) | (have n0_ : Aside0 (w36.heap[gb523]? = some (.cells #[.int .i64 a0_0, .slice A0_1 l0_1.length c0_1] 37 (0, 0))) := ⟨(nb_ BK523.out)⟩; have n1_ : Aside0 (Below w.heap.size w w36) := ⟨(ne_ HB.out)⟩; clear BK523 HB; have BK523 := n0_; have HB := n1_; clear n0_ n1_)); obtain ⟨hcz37_0, hcz37_1, hfz37_0, hfz37_1⟩ := cz2_ BK523.out) | ((with_reducible refine gate_callee (f := 18) rfl ?_); refine gl_ (some 27) Try.func18 #[.agg #[.int .i64 a0_0, .slice A0_1 l0_1.length c0_1]] ?_; (with_reducible refine (laws_toNet.calls k a0_0 _ _ l0_1 t526 t527 _ ?side1 ?side2 A16.out).mono ?_); (case side1 => exact nc_ (Kd.C_below HR0_1.out HB.out)); (case side2 => exact HC0_1.out); rintro e w38 ⟨v528, rfl, ho0, hb⟩; refine ⟨_, rfl, ?_⟩; have HO529 := Aside0.mk (Kd.R_lower ho0 (eZ6 (ne_ HB.out))); replace BK523 := kb_ BK523 hb; replace HB := kB_ HB hb; (try clear hb); (try clear hb2); (try clear hk); (try clear hi); (try clear ho0)) | ((with_reducible refine gate_callee (f := 19) rfl ?_); refine gl_ (some 29) Try.func19 #[.slice A1 l1.length c1] ?_; (with_reducible refine (laws_toTurnS.calls k _ _ l1 t530 _ ?side1 ?side2 A17.out).mono ?_); (case side1 => exact nc_ (Kd.C_below HR1.out HB.out)); (case side2 => exact HC1.out); rintro e w39 ⟨v531, rfl, ho0, hb⟩; refine ⟨_, rfl, ?_⟩; have HO532 := Aside0.mk (Kd.R_lower ho0 (eZ6 (ne_ HB.out))); replace HO529 := kR_ HO529 hb; replace BK523 := kb_ BK523 hb; replace HB := kB_ HB hb; (try clear hb); (try clear hb2); (try clear hk); (try clear hi); (try clear ho0)) | ((with_reducible refine gate_callee (f := 27) rfl ?_); refine gl_ (some 31) Try.func27 #[.slice A2 l2.length c2] ?_; (with_reducible refine (laws_toIntS.calls k _ _ l2 t533 _ ?side1 ?side2 A18.out).mono ?_); (case side1 => exact nc_ (Kd.C_below HR2.out HB.out)); (case side2 => exact HC2.out); rintro e w40 ⟨v534, rfl, ho0, hb⟩; refine ⟨_, rfl, ?_⟩; have HO535 := Aside0.mk (Kd.R_lower ho0 (eZ6 (ne_ HB.out))); replace HO529 := kR_ HO529 hb; replace HO532 := kR_ HO532 hb; replace BK523 := kb_ BK523 hb; replace HB := kB_ HB hb; (try clear hb); (try clear hb2); (try clear hk); (try clear hi); (try clear ho0); obtain ⟨Ao41, co41, eo41⟩ := Kd.R_slice HO529.out; subst eo41; obtain ⟨Ao42, co42, eo42⟩ := Kd.R_slice HO532.out; subst eo42; obtain ⟨Ao43, co43, eo43⟩ := Kd.R_slice HO535.out; subst eo43) | ((with_reducible refine gate_callee (f := 24) rfl ?_); refine gl_ (some 32) Try.func24 #[.agg #[.int .i64 t526, .slice Ao41 t527.length co41], .slice Ao42 t530.length co42, .slice Ao43 t533.length co43] ?_; (with_reducible refine (spec_TurnWalk.calls k t526 _ _ t527 _ _ t530 _ _ t533 t536 _ ?side1 ?side2 ?side3 ?side4 ?side5 ?side6 A19.out).mono ?_); (case side1 => exact nc_ (rR6 HO529.out).2.2); (case side2 => exact (rR6 HO529.out).2.1); (case side3 => exact nc_ (rR6 HO532.out).2.2); (case side4 => exact (rR6 HO532.out).2.1); (case side5 => exact nc_ (rR6 HO535.out).2.2); (case side6 => exact (rR6 HO535.out).2.1); rintro e w44 ⟨rfl, hb⟩; refine ⟨_, rfl, ?_⟩; replace HO529 := kR_ HO529 hb; replace HO532 := kR_ HO532 hb; replace HO535 := kR_ HO535 hb; replace BK523 := kb_ BK523 hb; replace HB := kB_ HB hb; (try clear hb); (try clear hb2); (try clear hk); (try clear hi); obtain ⟨hcz45_0, hcz45_1, hfz45_0, hfz45_1⟩ := cz2_ BK523.out) | ((with_reducible refine gate_callee (f := 18) rfl ?_); refine gl_ (some 34) Try.func18 #[.agg #[.int .i64 a0_0, .slice A0_1 l0_1.length c0_1]] ?_; (with_reducible refine (laws_toNet.calls k a0_0 _ _ l0_1 t537 t538 _ ?side1 ?side2 A20.out).mono ?_); (case side1 => exact nc_ (Kd.C_below HR0_1.out HB.out)); (case side2 => exact HC0_1.out); rintro e w46 ⟨v539, rfl, ho0, hb⟩; refine ⟨_, rfl, ?_⟩; have HO540 := Aside0.mk (Kd.R_lower (Kd.R_new' ho0 (Kd.R_lt (nr_ HO529.out))) (eZ6 (ne_ HB.out))); replace HO529 := Aside0.mk (Kd.R_elder' (nr_ HO529.out) (Kd.R_base ho0) hb); replace HO532 := kR_ HO532 hb; replace HO535 := kR_ HO535 hb; replace BK523 := kb_ BK523 hb; replace HB := kB_ HB hb; (try clear hb); (try clear hb2); (try clear hk); (try clear hi); (try clear ho0)) | ((with_reducible refine gate_dst (N := 9) rfl ?_); refine bx_ 9 #[.int .i64 0, .slice none 0 0] 25 ?_; intro gb541 hg w47 hbox hb; have BK541 := Aside0.mk (hbox); have GW541 := Aside0.mk (zs_ hg (ne_ HB.out)); have GE541 := Aside0.mk (zs_ hg (ne_ HB.out)); have NB523_541 := Aside0.mk (nl_ BK523.out hg); have NB541_523 := Aside0.mk (nm_ BK523.out hg); replace HO529 := kR_ HO529 hb; replace HO532 := kR_ HO532 hb; replace HO535 := kR_ HO535 hb; replace HO540 := kR_ HO540 hb; replace BK523 := kb_ BK523 hb; replace HB := kB_ HB hb; clear hb hbox hg; have hnb48 := NB541_523.out; have hnc48 := NB523_541.out; obtain ⟨hcz49_0, hcz49_1, hfz49_0, hfz49_1⟩ := cz2_ BK541.out; obtain ⟨Ao50, co50, eo50⟩ := Kd.R_slice HO540.out; subst eo50) | ((with_reducible refine gate_callee (f := 19) rfl ?_); refine gl_ (some 36) Try.func19 #[.slice A1 l1.length c1] ?_; (with_reducible refine (laws_toTurnS.calls k _ _ l1 t542 _ ?side1 ?side2 A21.out).mono ?_); (case side1 => exact Kd.C_below HR1.out (ne_ HB.out)); (case side2 => exact HC1.out); rintro e w51 ⟨v543, rfl, ho0, hb⟩; refine ⟨_, rfl, ?_⟩; have HO544 := Aside0.mk (Kd.R_lower (Kd.R_new' ho0 (Kd.R_lt (by (with_reducible repeat (first | apply Kd.R_alloc | apply Kd.R_drewN | apply rD6)); exact (Kd.R_mono (rf2_ (Kd.R_types HO532.out BK541.out (by decide))) (fun _ h_ => h_.1))))) (eZ6 (ne_ HB.out))); replace HO529 := Aside0.mk (rB6 (by (with_reducible repeat (first | apply Kd.R_alloc | apply Kd.R_drewN | apply rD6)); exact (Kd.R_mono (rf2_ (Kd.R_types HO529.out BK541.out (by decide))) (fun _ h_ => h_.1))) hb); replace HO532 := Aside0.mk (Kd.R_elder' (by (with_reducible repeat (first | apply Kd.R_alloc | apply Kd.R_drewN | apply rD6)); exact (Kd.R_mono (rf2_ (Kd.R_types HO532.out BK541.out (by decide))) (fun _ h_ => h_.1))) (Kd.R_base ho0) hb); replace HO535 := Aside0.mk (rB6 (by (with_reducible repeat (first | apply Kd.R_alloc | apply Kd.R_drewN | apply rD6)); exact (Kd.R_mono (rf2_ (Kd.R_types HO535.out BK541.out (by decide))) (fun _ h_ => h_.1))) hb); replace HO540 := Aside0.mk (rB6 (by (with_reducible repeat (first | apply Kd.R_alloc | apply Kd.R_drewN | apply rD6)); exact (Kd.R_mono (rf2_ (Kd.R_types HO540.out BK541.out (by decide))) (fun _ h_ => h_.1))) hb); replace BK523 := kf_ BK523 hb; replace BK541 := Aside0.mk (blk_below (g := gb541) (o := .cells #[.int .i64 t537, .slice Ao50 t538.length co50] 25 (0, 0)) (np_ BK541.out) hb); replace HB := kB_ HB hb; (try clear hb); (try clear hb2); (try clear hk); (try clear hi); (try clear ho0)) | ((with_reducible refine gate_callee (f := 27) rfl ?_); refine gl_ (some 38) Try.func27 #[.slice A2 l2.length c2] ?_; (with_reducible refine (laws_toIntS.calls k _ _ l2 t545 _ ?side1 ?side2 A22.out).mono ?_); (case side1 => exact nc_ (Kd.C_below HR2.out HB.out)); (case side2 => exact HC2.out); rintro e w52 ⟨v546, rfl, ho0, hb⟩; refine ⟨_, rfl, ?_⟩; have HO547 := Aside0.mk (Kd.R_lower (Kd.R_new' ho0 (Kd.R_lt (nr_ HO535.out))) (eZ6 (ne_ HB.out))); replace HO529 := kR_ HO529 hb; replace HO532 := kR_ HO532 hb; replace HO535 := Aside0.mk (Kd.R_elder' (nr_ HO535.out) (Kd.R_base ho0) hb); replace HO540 := kR_ HO540 hb; replace HO544 := kR_ HO544 hb; replace BK523 := kb_ BK523 hb; replace BK541 := kb_ BK541 hb; replace HB := kB_ HB hb; (try clear hb); (try clear hb2); (try clear hk); (try clear hi); (try clear ho0); obtain ⟨hcz53_0, hcz53_1, hfz53_0, hfz53_1⟩ := cz2_ BK541.out; obtain ⟨Ao54, co54, eo54⟩ := Kd.R_slice HO544.out; subst eo54; obtain ⟨Ao55, co55, eo55⟩ := Kd.R_slice HO547.out; subst eo55) | ((with_reducible refine gate_callee (f := 23) rfl ?_); refine gl_ (some 42) Try.func23 #[.agg #[.int .i64 t537, .slice Ao50 t538.length co50], .slice Ao54 t542.length co54, .slice Ao55 t545.length co55] ?_; (with_reducible refine (impl_TurnWalk.calls k t537 _ _ t538 _ _ t542 _ _ t545 t548 _ ?side1 ?side2 ?side3 ?side4 ?side5 ?side6 A23.out).mono ?_); (case side1 => exact nc_ (rR6 HO540.out).2.2); (case side2 => exact (rR6 HO540.out).2.1); (case side3 => exact nc_ (rR6 HO544.out).2.2); (case side4 => exact (rR6 HO544.out).2.1); (case side5 => exact nc_ (rR6 HO547.out).2.2); (case side6 => exact (rR6 HO547.out).2.1); rintro e w56 ⟨rfl, hb⟩; refine ⟨_, rfl, ?_⟩; replace HO529 := kR_ HO529 hb; replace HO532 := kR_ HO532 hb; replace HO535 := kR_ HO535 hb; replace HO540 := kR_ HO540 hb; replace HO544 := kR_ HO544 hb; replace HO547 := kR_ HO547 hb; replace BK523 := kb_ BK523 hb; replace BK541 := kb_ BK541 hb; replace HB := kB_ HB hb; (try clear hb); (try clear hb2); (try clear hk); (try clear hi)))
   have n0_ := Aside0.mk (rD6 HO529.out)
   have n1_ := Aside0.mk (rD6 HO532.out)
   have n2_ := Aside0.mk (rD6 HO535.out)
   have n3_ := Aside0.mk (rD6 HO540.out)
   have n4_ := Aside0.mk (rD6 HO544.out)
   have n5_ := Aside0.mk (rD6 HO547.out)
   have n6_ := Aside0.mk (blk_drew BK523.out)
   have n7_ := Aside0.mk (blk_drew BK541.out)
   have n8_ := Aside0.mk (below_drew1 HB.out)
   clear HO529
   clear HO532
   clear HO535
   clear HO540
   clear HO544
   clear HO547
   clear BK523
   clear BK541
   clear HB
   have HO529 := n0_
   have HO532 := n1_
   have HO535 := n2_
   have HO540 := n3_
   have HO544 := n4_
   have HO547 := n5_
   have BK523 := n6_
   have BK541 := n7_
   have HB := n8_
   clear n0_ n1_ n2_ n3_ n4_ n5_ n6_ n7_ n8_
   refine start_ (n := 5) (S := fun w' => w'.cell? ⟨gb541, 0, none⟩ = some (.int .i64 t537) ∧ w'.cell? ⟨gb541, 1, none⟩ = some (.slice Ao50 t538.length co50) ∧ w'.cell? ⟨gb523, 0, none⟩ = some (.int .i64 a0_0) ∧ w'.cell? ⟨gb523, 1, none⟩ = some (.slice A0_1 l0_1.length c0_1)) (ds := []) #[false, false, false, false, false] (by kernel_rfl) rfl rfl ⟨(bC6 BK541.out 0).trans rfl, (bC6 BK541.out 1).trans rfl, (bC6 BK523.out 0).trans rfl, (bC6 BK523.out 1).trans rfl⟩ (fun hHeld => ?_)
   generalize w56.drew = w57 at HO529 HO532 HO535 HO540 HO544 HO547 BK523 BK541 HB hHeld ⊢
   refine take_ (i := 0) (N := some 46) (v := ?_) (a' := ?_) #[true, false, false, false, false] rfl rfl (by kernel_rfl) (fun _ _ _ h => h) (Or.inl ⟨by rfl, ?_⟩) hHeld ?_ ?_
   rotate_left
   ·rintro w' ⟨s0, s1, s2, s3⟩
    go_simp
    with_reducible rfl
   rotate_left
   ·simp only [Act.put, List.setIfInBounds_toArray, List.set_cons_zero, List.set_cons_succ, i64_w, i32_w]
    rfl
   refine take_ (i := 1) (N := some 47) (v := ?_) (a' := ?_) #[true, true, false, false, false] rfl rfl (by kernel_rfl) (fun _ _ _ h => h) (Or.inl ⟨by rfl, ?_⟩) hHeld ?_ ?_
   rotate_left
   ·rintro w' ⟨s0, s1, s2, s3⟩
    go_simp
    with_reducible rfl
   rotate_left
   ·simp only [Act.put, List.setIfInBounds_toArray, List.set_cons_zero, List.set_cons_succ, i64_w, i32_w]
    rfl
   refine one_ (i := 2) (N := some 48) #[true, true, true, false, false] rfl rfl (by kernel_rfl) (by decide) (fun K hK => ?_)
   refine goes_ Try.func18 (by kernel_rfl) rfl #[.agg #[.int .i64 a0_0, .slice A0_1 l0_1.length c0_1]] (by rfl) rfl rfl na_ ?_
   with_reducible refine (laws_toNet.calls k a0_0 _ _ l0_1 t549 t550 _ ?side1 ?side2 A25.out).mono ?_
   (case side1 => exact nc_ (Kd.C_below HR0_1.out HB.out))
   (case side2 => exact HC0_1.out)
   rintro e w58 ⟨v551, rfl, ho0, hb⟩
   refine ⟨_, rfl, ?_⟩
   have n0_ := Aside0.mk (Kd.R_elder' (nr_ HO529.out) (Kd.R_base ho0) hb)
   have n1_ := Aside0.mk (rB6 (nr_ HO532.out) hb)
   have n2_ := Aside0.mk (rB6 (nr_ HO535.out) hb)
   have n3_ := Aside0.mk (Kd.R_elder' (nr_ HO540.out) (Kd.R_base ho0) hb)
   have n4_ := Aside0.mk (rB6 (nr_ HO544.out) hb)
   have n5_ := Aside0.mk (rB6 (nr_ HO547.out) hb)
   have n6_ := Aside0.mk (Kd.R_lower (Kd.R_new' (Kd.R_new' ho0 (Kd.R_lt (nr_ HO529.out))) (Kd.R_lt (nr_ HO540.out))) (eZ6 (ne_ HB.out)))
   have n7_ := Aside0.mk (blk_below (g := gb523) (o := .cells #[.int .i64 a0_0, .slice A0_1 l0_1.length c0_1] 37 (0, 0)) (nb_ BK523.out) hb)
   have n8_ := Aside0.mk (blk_below (g := gb541) (o := .cells #[.int .i64 t537, .slice Ao50 t538.length co50] 25 (0, 0)) (nb_ BK541.out) hb)
   have n9_ := Aside0.mk (below_step (ne_ HB.out) hb)
   clear HO529
   clear HO532
   clear HO535
   clear HO540
   clear HO544
   clear HO547
   clear BK523
   clear BK541
   clear HB
   have HO529 := n0_
   have HO532 := n1_
   have HO535 := n2_
   have HO540 := n3_
   have HO544 := n4_
   have HO547 := n5_
   have HO552 := n6_
   have BK523 := n7_
   have BK541 := n8_
   have HB := n9_
   clear n0_ n1_ n2_ n3_ n4_ n5_ n6_ n7_ n8_ n9_
   (try clear hb)
   (try clear hb2)
   (try clear hk)
   (try clear hi)
   (try clear ho0)
   obtain ⟨Ao59, co59, eo59⟩ := Kd.R_slice HO552.out
   (first | subst eo59 | (injection eo59 with f1_ f2_ f3_; have f4_ := f1_.symm; have f5_ := f3_.symm; clear f1_ f2_ f3_; subst f4_; subst f5_))
   refine hK.out _ _ ⟨(bC6 BK541.out 0).trans rfl, (bC6 BK541.out 1).trans rfl, (bC6 BK523.out 0).trans rfl, (bC6 BK523.out 1).trans rfl⟩ (fun hHeld => ?_)
   clear hK K
   refine norm_ (a' := ?_) ?_ ?_
   rotate_left
   ·show Act.put _ (some 48) _ = _
    simp only [Act.put, List.setIfInBounds_toArray, List.set_cons_zero, List.set_cons_succ, i64_w, i32_w]
    rfl
   refine one_ (i := 3) (N := some 49) #[true, true, true, true, false] rfl rfl (by kernel_rfl) (by decide) (fun K hK => ?_)
   refine goes_ Try.func20 (by kernel_rfl) rfl #[.agg #[.int .i64 t537, .slice Ao50 t538.length co50], .agg #[.int .i64 t549, .slice Ao59 t550.length co59]] (by rfl) rfl rfl na_ ?_
   with_reducible refine (laws_eqNet.calls k t537 _ _ t538 t549 _ _ t550 true _ ?side1 ?side2 ?side3 ?side4 A26.out).mono ?_
   (case side1 => exact nc_ (rR6 HO540.out).2.2)
   (case side2 => exact (rR6 HO540.out).2.1)
   (case side3 => exact nc_ (rR6 HO552.out).2.2)
   (case side4 => exact (rR6 HO552.out).2.1)
   rintro e w60 ⟨rfl, hb⟩
   refine ⟨_, rfl, ?_⟩
   have n0_ := Aside0.mk (rB6 (nr_ HO529.out) hb)
   have n1_ := Aside0.mk (rB6 (nr_ HO532.out) hb)
   have n2_ := Aside0.mk (rB6 (nr_ HO535.out) hb)
   have n3_ := Aside0.mk (rB6 (nr_ HO540.out) hb)
   have n4_ := Aside0.mk (rB6 (nr_ HO544.out) hb)
   have n5_ := Aside0.mk (rB6 (nr_ HO547.out) hb)
   have n6_ := Aside0.mk (rB6 (nr_ HO552.out) hb)
   have n7_ := Aside0.mk (blk_below (g := gb523) (o := .cells #[.int .i64 a0_0, .slice A0_1 l0_1.length c0_1] 37 (0, 0)) (nb_ BK523.out) hb)
   have n8_ := Aside0.mk (blk_below (g := gb541) (o := .cells #[.int .i64 t537, .slice Ao50 t538.length co50] 25 (0, 0)) (nb_ BK541.out) hb)
   have n9_ := Aside0.mk (below_step (ne_ HB.out) hb)
   clear HO529
   clear HO532
   clear HO535
   clear HO540
   clear HO544
   clear HO547
   clear HO552
   clear BK523
   clear BK541
   clear HB
   have HO529 := n0_
   have HO532 := n1_
   have HO535 := n2_
   have HO540 := n3_
   have HO544 := n4_
   have HO547 := n5_
   have HO552 := n6_
   have BK523 := n7_
   have BK541 := n8_
   have HB := n9_
   clear n0_ n1_ n2_ n3_ n4_ n5_ n6_ n7_ n8_ n9_
   (try clear hb)
   (try clear hb2)
   (try clear hk)
   (try clear hi)
   refine hK.out _ _ ⟨(bC6 BK541.out 0).trans rfl, (bC6 BK541.out 1).trans rfl, (bC6 BK523.out 0).trans rfl, (bC6 BK523.out 1).trans rfl⟩ (fun hHeld => ?_)
   clear hK K
   refine norm_ (a' := ?_) ?_ ?_
   rotate_left
   ·show Act.put _ (some 49) _ = _
    simp only [Act.put, List.setIfInBounds_toArray, List.set_cons_zero, List.set_cons_succ, i64_w, i32_w]
    rfl
   refine pure_ (i := 4) (N := some 50) (v := ?_) (a' := ?_) #[true, true, true, true, true] rfl rfl (by kernel_rfl) (fun _ _ _ h => h) (Or.inl ⟨by rfl, ?_⟩) ?_ ?_
   rotate_left
   ·intro w'
    go_simp
    with_reducible rfl
   rotate_left
   ·simp only [Act.put, List.setIfInBounds_toArray, List.set_cons_zero, List.set_cons_succ, i64_w, i32_w]
    rfl
   refine done_ (by kernel_rfl) ?_
   try go_wp2_with (first | ((with_reducible refine gate_callee (f := 19) rfl ?_); refine gl_ (some 53) Try.func19 #[.slice A1 l1.length c1] ?_; (with_reducible refine (laws_toTurnS.calls k _ _ l1 t554 _ ?side1 ?side2 A28.out).mono ?_); (case side1 => exact nc_ (Kd.C_below HR1.out HB.out)); (case side2 => exact HC1.out); rintro e w61 ⟨v555, rfl, ho0, hb⟩; refine ⟨_, rfl, ?_⟩; have HO556 := Aside0.mk (Kd.R_lower (Kd.R_new' (Kd.R_new' ho0 (Kd.R_lt (nr_ HO532.out))) (Kd.R_lt (nr_ HO544.out))) (eZ6 (ne_ HB.out))); replace HO529 := kR_ HO529 hb; replace HO532 := Aside0.mk (Kd.R_elder' (nr_ HO532.out) (Kd.R_base ho0) hb); replace HO535 := kR_ HO535 hb; replace HO540 := kR_ HO540 hb; replace HO544 := Aside0.mk (Kd.R_elder' (nr_ HO544.out) (Kd.R_base ho0) hb); replace HO547 := kR_ HO547 hb; replace HO552 := kR_ HO552 hb; replace BK523 := kb_ BK523 hb; replace BK541 := kb_ BK541 hb; replace HB := kB_ HB hb; (try clear hb); (try clear hb2); (try clear hk); (try clear hi); (try clear ho0); obtain ⟨Ao62, co62, eo62⟩ := Kd.R_slice HO556.out; subst eo62) | ((with_reducible refine gate_callee (f := 21) rfl ?_); refine gl_ (some 54) Try.func21 #[.slice Ao54 t542.length co54, .slice Ao62 t554.length co62] ?_; (with_reducible refine (laws_eqTurnS.calls k _ _ t542 _ _ t554 true _ ?side1 ?side2 ?side3 ?side4 A29.out).mono ?_); (case side1 => exact nc_ (rR6 HO544.out).2.2); (case side2 => exact (rR6 HO544.out).2.1); (case side3 => exact nc_ (rR6 HO556.out).2.2); (case side4 => exact (rR6 HO556.out).2.1); rintro e w63 ⟨rfl, hb⟩; refine ⟨_, rfl, ?_⟩; replace HO529 := kR_ HO529 hb; replace HO532 := kR_ HO532 hb; replace HO535 := kR_ HO535 hb; replace HO540 := kR_ HO540 hb; replace HO544 := kR_ HO544 hb; replace HO547 := kR_ HO547 hb; replace HO552 := kR_ HO552 hb; replace HO556 := kR_ HO556 hb; replace BK523 := kb_ BK523 hb; replace BK541 := kb_ BK541 hb; replace HB := kB_ HB hb; (try clear hb); (try clear hb2); (try clear hk); (try clear hi)) | ((with_reducible refine gate_callee (f := 27) rfl ?_); refine gl_ (some 58) Try.func27 #[.slice A2 l2.length c2] ?_; (with_reducible refine (laws_toIntS.calls k _ _ l2 t558 _ ?side1 ?side2 A31.out).mono ?_); (case side1 => exact nc_ (Kd.C_below HR2.out HB.out)); (case side2 => exact HC2.out); rintro e w64 ⟨v559, rfl, ho0, hb⟩; refine ⟨_, rfl, ?_⟩; have HO560 := Aside0.mk (Kd.R_lower (Kd.R_new' (Kd.R_new' ho0 (Kd.R_lt (nr_ HO535.out))) (Kd.R_lt (nr_ HO547.out))) (eZ6 (ne_ HB.out))); replace HO529 := kR_ HO529 hb; replace HO532 := kR_ HO532 hb; replace HO535 := Aside0.mk (Kd.R_elder' (nr_ HO535.out) (Kd.R_base ho0) hb); replace HO540 := kR_ HO540 hb; replace HO544 := kR_ HO544 hb; replace HO547 := Aside0.mk (Kd.R_elder' (nr_ HO547.out) (Kd.R_base ho0) hb); replace HO552 := kR_ HO552 hb; replace HO556 := kR_ HO556 hb; replace BK523 := kb_ BK523 hb; replace BK541 := kb_ BK541 hb; replace HB := kB_ HB hb; (try clear hb); (try clear hb2); (try clear hk); (try clear hi); (try clear ho0); obtain ⟨Ao65, co65, eo65⟩ := Kd.R_slice HO560.out; subst eo65) | ((with_reducible refine gate_callee (f := 28) rfl ?_); refine gl_ (some 59) Try.func28 #[.slice Ao55 t545.length co55, .slice Ao65 t558.length co65] ?_; (with_reducible refine (laws_eqIntS.calls k _ _ t545 _ _ t558 true _ ?side1 ?side2 ?side3 ?side4 A32.out).mono ?_); (case side1 => exact nc_ (rR6 HO547.out).2.2); (case side2 => exact (rR6 HO547.out).2.1); (case side3 => exact nc_ (rR6 HO560.out).2.2); (case side4 => exact (rR6 HO560.out).2.1); rintro e w' ⟨rfl, ⟨nd, rfl⟩⟩; refine ⟨_, rfl, ?_⟩))
   go_ret
   exact ⟨nw_, ne_ HB.out⟩
  replace c33 := Bool.eq_false_iff.mpr c33
  subst c33
  have H1 : (some false) = some r := by rw [if_neg (show ¬ (false = true) by decide)] at H; exact H
  clear H
  have H := H1
  clear H1
  obtain rfl := Option.some.inj H
  go_enter Try.func6, Try.ntmps6
  try go_wp2_with (first | ((with_reducible refine gate_dst (N := 3) rfl ?_); refine bx_ 3 #[.int .i64 a0_0, .slice A0_1 l0_1.length c0_1] 37 ?_; intro gb523 hg w66 hbox hb; have BK523 := Aside0.mk (hbox); have GW523 := Aside0.mk (zs_ hg (ne_ HB.out)); have GE523 := Aside0.mk (zs_ hg (ne_ HB.out)); replace HB := kB_ HB hb; clear hb hbox hg; obtain ⟨hcz67_0, hcz67_1, hfz67_0, hfz67_1⟩ := cz2_ BK523.out) | ((with_reducible refine gate_callee (f := 16) rfl ?_); refine gl_ (some 18) Try.func16 #[.agg #[.int .i64 a0_0, .slice A0_1 l0_1.length c0_1], .int .i64 1048576] ?_; (with_reducible refine (laws_szNet.calls a0_0 _ _ l0_1 1048576 t524 _ ?side1 ?side2 A6.out).mono ?_); (case side1 => exact nc_ (Kd.C_below HR0_1.out HB.out)); (case side2 => exact HC0_1.out); rintro e w68 ⟨rfl, hb⟩; refine ⟨_, rfl, ?_⟩; replace BK523 := kb_ BK523 hb; replace HB := kB_ HB hb; (try clear hb); (try clear hb2); (try clear hk); (try clear hi)) | ((with_reducible refine gate_callee (f := 17) rfl ?_); refine gl_ (some 23) Try.func17 #[.slice A1 l1.length c1, .int .i64 t524] ?_; (with_reducible refine (laws_szTurnS.calls _ _ l1 t524 t525 _ ?side1 ?side2 A11.out).mono ?_); (case side1 => exact nc_ (Kd.C_below HR1.out HB.out)); (case side2 => exact HC1.out); rintro e w' ⟨rfl, ⟨nd, rfl⟩⟩; refine ⟨_, rfl, ?_⟩; (first | (rw [drewN_self w68]; generalize hq_ : World.drewN w68 _ = w68; replace BK523 : Aside0 (w68.heap[gb523]? = some (.cells #[.int .i64 a0_0, .slice A0_1 l0_1.length c0_1] 37 (0, 0))) := ⟨by rw [← hq_]; exact (nb_ BK523.out)⟩; replace HB : Aside0 (Below w.heap.size w w68) := ⟨by rw [← hq_]; exact (ne_ HB.out)⟩; clear hq_) | (have n0_ : Aside0 (w68.heap[gb523]? = some (.cells #[.int .i64 a0_0, .slice A0_1 l0_1.length c0_1] 37 (0, 0))) := ⟨(nb_ BK523.out)⟩; have n1_ : Aside0 (Below w.heap.size w w68) := ⟨(ne_ HB.out)⟩; clear BK523 HB; have BK523 := n0_; have HB := n1_; clear n0_ n1_)); obtain ⟨hcz69_0, hcz69_1, hfz69_0, hfz69_1⟩ := cz2_ BK523.out) | ((with_reducible refine gate_callee (f := 18) rfl ?_); refine gl_ (some 27) Try.func18 #[.agg #[.int .i64 a0_0, .slice A0_1 l0_1.length c0_1]] ?_; (with_reducible refine (laws_toNet.calls k a0_0 _ _ l0_1 t526 t527 _ ?side1 ?side2 A16.out).mono ?_); (case side1 => exact nc_ (Kd.C_below HR0_1.out HB.out)); (case side2 => exact HC0_1.out); rintro e w70 ⟨v528, rfl, ho0, hb⟩; refine ⟨_, rfl, ?_⟩; have HO529 := Aside0.mk (Kd.R_lower ho0 (eZ6 (ne_ HB.out))); replace BK523 := kb_ BK523 hb; replace HB := kB_ HB hb; (try clear hb); (try clear hb2); (try clear hk); (try clear hi); (try clear ho0)) | ((with_reducible refine gate_callee (f := 19) rfl ?_); refine gl_ (some 29) Try.func19 #[.slice A1 l1.length c1] ?_; (with_reducible refine (laws_toTurnS.calls k _ _ l1 t530 _ ?side1 ?side2 A17.out).mono ?_); (case side1 => exact nc_ (Kd.C_below HR1.out HB.out)); (case side2 => exact HC1.out); rintro e w71 ⟨v531, rfl, ho0, hb⟩; refine ⟨_, rfl, ?_⟩; have HO532 := Aside0.mk (Kd.R_lower ho0 (eZ6 (ne_ HB.out))); replace HO529 := kR_ HO529 hb; replace BK523 := kb_ BK523 hb; replace HB := kB_ HB hb; (try clear hb); (try clear hb2); (try clear hk); (try clear hi); (try clear ho0)) | ((with_reducible refine gate_callee (f := 27) rfl ?_); refine gl_ (some 31) Try.func27 #[.slice A2 l2.length c2] ?_; (with_reducible refine (laws_toIntS.calls k _ _ l2 t533 _ ?side1 ?side2 A18.out).mono ?_); (case side1 => exact nc_ (Kd.C_below HR2.out HB.out)); (case side2 => exact HC2.out); rintro e w72 ⟨v534, rfl, ho0, hb⟩; refine ⟨_, rfl, ?_⟩; have HO535 := Aside0.mk (Kd.R_lower ho0 (eZ6 (ne_ HB.out))); replace HO529 := kR_ HO529 hb; replace HO532 := kR_ HO532 hb; replace BK523 := kb_ BK523 hb; replace HB := kB_ HB hb; (try clear hb); (try clear hb2); (try clear hk); (try clear hi); (try clear ho0); obtain ⟨Ao73, co73, eo73⟩ := Kd.R_slice HO529.out; subst eo73; obtain ⟨Ao74, co74, eo74⟩ := Kd.R_slice HO532.out; subst eo74; obtain ⟨Ao75, co75, eo75⟩ := Kd.R_slice HO535.out; subst eo75) | ((with_reducible refine gate_callee (f := 24) rfl ?_); refine gl_ (some 32) Try.func24 #[.agg #[.int .i64 t526, .slice Ao73 t527.length co73], .slice Ao74 t530.length co74, .slice Ao75 t533.length co75] ?_; (with_reducible refine (spec_TurnWalk.calls k t526 _ _ t527 _ _ t530 _ _ t533 t536 _ ?side1 ?side2 ?side3 ?side4 ?side5 ?side6 A19.out).mono ?_); (case side1 => exact nc_ (rR6 HO529.out).2.2); (case side2 => exact (rR6 HO529.out).2.1); (case side3 => exact nc_ (rR6 HO532.out).2.2); (case side4 => exact (rR6 HO532.out).2.1); (case side5 => exact nc_ (rR6 HO535.out).2.2); (case side6 => exact (rR6 HO535.out).2.1); rintro e w76 ⟨rfl, hb⟩; refine ⟨_, rfl, ?_⟩; replace HO529 := kR_ HO529 hb; replace HO532 := kR_ HO532 hb; replace HO535 := kR_ HO535 hb; replace BK523 := kb_ BK523 hb; replace HB := kB_ HB hb; (try clear hb); (try clear hb2); (try clear hk); (try clear hi); obtain ⟨hcz77_0, hcz77_1, hfz77_0, hfz77_1⟩ := cz2_ BK523.out) | ((with_reducible refine gate_callee (f := 18) rfl ?_); refine gl_ (some 34) Try.func18 #[.agg #[.int .i64 a0_0, .slice A0_1 l0_1.length c0_1]] ?_; (with_reducible refine (laws_toNet.calls k a0_0 _ _ l0_1 t537 t538 _ ?side1 ?side2 A20.out).mono ?_); (case side1 => exact nc_ (Kd.C_below HR0_1.out HB.out)); (case side2 => exact HC0_1.out); rintro e w78 ⟨v539, rfl, ho0, hb⟩; refine ⟨_, rfl, ?_⟩; have HO540 := Aside0.mk (Kd.R_lower (Kd.R_new' ho0 (Kd.R_lt (nr_ HO529.out))) (eZ6 (ne_ HB.out))); replace HO529 := Aside0.mk (Kd.R_elder' (nr_ HO529.out) (Kd.R_base ho0) hb); replace HO532 := kR_ HO532 hb; replace HO535 := kR_ HO535 hb; replace BK523 := kb_ BK523 hb; replace HB := kB_ HB hb; (try clear hb); (try clear hb2); (try clear hk); (try clear hi); (try clear ho0)) | ((with_reducible refine gate_dst (N := 9) rfl ?_); refine bx_ 9 #[.int .i64 0, .slice none 0 0] 25 ?_; intro gb541 hg w79 hbox hb; have BK541 := Aside0.mk (hbox); have GW541 := Aside0.mk (zs_ hg (ne_ HB.out)); have GE541 := Aside0.mk (zs_ hg (ne_ HB.out)); have NB523_541 := Aside0.mk (nl_ BK523.out hg); have NB541_523 := Aside0.mk (nm_ BK523.out hg); replace HO529 := kR_ HO529 hb; replace HO532 := kR_ HO532 hb; replace HO535 := kR_ HO535 hb; replace HO540 := kR_ HO540 hb; replace BK523 := kb_ BK523 hb; replace HB := kB_ HB hb; clear hb hbox hg; have hnb80 := NB541_523.out; have hnc80 := NB523_541.out; obtain ⟨hcz81_0, hcz81_1, hfz81_0, hfz81_1⟩ := cz2_ BK541.out; obtain ⟨Ao82, co82, eo82⟩ := Kd.R_slice HO540.out; subst eo82) | ((with_reducible refine gate_callee (f := 19) rfl ?_); refine gl_ (some 36) Try.func19 #[.slice A1 l1.length c1] ?_; (with_reducible refine (laws_toTurnS.calls k _ _ l1 t542 _ ?side1 ?side2 A21.out).mono ?_); (case side1 => exact Kd.C_below HR1.out (ne_ HB.out)); (case side2 => exact HC1.out); rintro e w83 ⟨v543, rfl, ho0, hb⟩; refine ⟨_, rfl, ?_⟩; have HO544 := Aside0.mk (Kd.R_lower (Kd.R_new' ho0 (Kd.R_lt (by (with_reducible repeat (first | apply Kd.R_alloc | apply Kd.R_drewN | apply rD6)); exact (Kd.R_mono (rf2_ (Kd.R_types HO532.out BK541.out (by decide))) (fun _ h_ => h_.1))))) (eZ6 (ne_ HB.out))); replace HO529 := Aside0.mk (rB6 (by (with_reducible repeat (first | apply Kd.R_alloc | apply Kd.R_drewN | apply rD6)); exact (Kd.R_mono (rf2_ (Kd.R_types HO529.out BK541.out (by decide))) (fun _ h_ => h_.1))) hb); replace HO532 := Aside0.mk (Kd.R_elder' (by (with_reducible repeat (first | apply Kd.R_alloc | apply Kd.R_drewN | apply rD6)); exact (Kd.R_mono (rf2_ (Kd.R_types HO532.out BK541.out (by decide))) (fun _ h_ => h_.1))) (Kd.R_base ho0) hb); replace HO535 := Aside0.mk (rB6 (by (with_reducible repeat (first | apply Kd.R_alloc | apply Kd.R_drewN | apply rD6)); exact (Kd.R_mono (rf2_ (Kd.R_types HO535.out BK541.out (by decide))) (fun _ h_ => h_.1))) hb); replace HO540 := Aside0.mk (rB6 (by (with_reducible repeat (first | apply Kd.R_alloc | apply Kd.R_drewN | apply rD6)); exact (Kd.R_mono (rf2_ (Kd.R_types HO540.out BK541.out (by decide))) (fun _ h_ => h_.1))) hb); replace BK523 := kf_ BK523 hb; replace BK541 := Aside0.mk (blk_below (g := gb541) (o := .cells #[.int .i64 t537, .slice Ao82 t538.length co82] 25 (0, 0)) (np_ BK541.out) hb); replace HB := kB_ HB hb; (try clear hb); (try clear hb2); (try clear hk); (try clear hi); (try clear ho0)) | ((with_reducible refine gate_callee (f := 27) rfl ?_); refine gl_ (some 38) Try.func27 #[.slice A2 l2.length c2] ?_; (with_reducible refine (laws_toIntS.calls k _ _ l2 t545 _ ?side1 ?side2 A22.out).mono ?_); (case side1 => exact nc_ (Kd.C_below HR2.out HB.out)); (case side2 => exact HC2.out); rintro e w84 ⟨v546, rfl, ho0, hb⟩; refine ⟨_, rfl, ?_⟩; have HO547 := Aside0.mk (Kd.R_lower (Kd.R_new' ho0 (Kd.R_lt (nr_ HO535.out))) (eZ6 (ne_ HB.out))); replace HO529 := kR_ HO529 hb; replace HO532 := kR_ HO532 hb; replace HO535 := Aside0.mk (Kd.R_elder' (nr_ HO535.out) (Kd.R_base ho0) hb); replace HO540 := kR_ HO540 hb; replace HO544 := kR_ HO544 hb; replace BK523 := kb_ BK523 hb; replace BK541 := kb_ BK541 hb; replace HB := kB_ HB hb; (try clear hb); (try clear hb2); (try clear hk); (try clear hi); (try clear ho0); obtain ⟨hcz85_0, hcz85_1, hfz85_0, hfz85_1⟩ := cz2_ BK541.out; obtain ⟨Ao86, co86, eo86⟩ := Kd.R_slice HO544.out; subst eo86; obtain ⟨Ao87, co87, eo87⟩ := Kd.R_slice HO547.out; subst eo87) | ((with_reducible refine gate_callee (f := 23) rfl ?_); refine gl_ (some 42) Try.func23 #[.agg #[.int .i64 t537, .slice Ao82 t538.length co82], .slice Ao86 t542.length co86, .slice Ao87 t545.length co87] ?_; (with_reducible refine (impl_TurnWalk.calls k t537 _ _ t538 _ _ t542 _ _ t545 t548 _ ?side1 ?side2 ?side3 ?side4 ?side5 ?side6 A23.out).mono ?_); (case side1 => exact nc_ (rR6 HO540.out).2.2); (case side2 => exact (rR6 HO540.out).2.1); (case side3 => exact nc_ (rR6 HO544.out).2.2); (case side4 => exact (rR6 HO544.out).2.1); (case side5 => exact nc_ (rR6 HO547.out).2.2); (case side6 => exact (rR6 HO547.out).2.1); rintro e w88 ⟨rfl, hb⟩; refine ⟨_, rfl, ?_⟩; replace HO529 := kR_ HO529 hb; replace HO532 := kR_ HO532 hb; replace HO535 := kR_ HO535 hb; replace HO540 := kR_ HO540 hb; replace HO544 := kR_ HO544 hb; replace HO547 := kR_ HO547 hb; replace BK523 := kb_ BK523 hb; replace BK541 := kb_ BK541 hb; replace HB := kB_ HB hb; (try clear hb); (try clear hb2); (try clear hk); (try clear hi)))
  have n0_ := Aside0.mk (rD6 HO529.out)
  have n1_ := Aside0.mk (rD6 HO532.out)
  have n2_ := Aside0.mk (rD6 HO535.out)
  have n3_ := Aside0.mk (rD6 HO540.out)
  have n4_ := Aside0.mk (rD6 HO544.out)
  have n5_ := Aside0.mk (rD6 HO547.out)
  have n6_ := Aside0.mk (blk_drew BK523.out)
  have n7_ := Aside0.mk (blk_drew BK541.out)
  have n8_ := Aside0.mk (below_drew1 HB.out)
  clear HO529
  clear HO532
  clear HO535
  clear HO540
  clear HO544
  clear HO547
  clear BK523
  clear BK541
  clear HB
  have HO529 := n0_
  have HO532 := n1_
  have HO535 := n2_
  have HO540 := n3_
  have HO544 := n4_
  have HO547 := n5_
  have BK523 := n6_
  have BK541 := n7_
  have HB := n8_
  clear n0_ n1_ n2_ n3_ n4_ n5_ n6_ n7_ n8_
  refine start_ (n := 5) (S := fun w' => w'.cell? ⟨gb541, 0, none⟩ = some (.int .i64 t537) ∧ w'.cell? ⟨gb541, 1, none⟩ = some (.slice Ao82 t538.length co82) ∧ w'.cell? ⟨gb523, 0, none⟩ = some (.int .i64 a0_0) ∧ w'.cell? ⟨gb523, 1, none⟩ = some (.slice A0_1 l0_1.length c0_1)) (ds := []) #[false, false, false, false, false] (by kernel_rfl) rfl rfl ⟨(bC6 BK541.out 0).trans rfl, (bC6 BK541.out 1).trans rfl, (bC6 BK523.out 0).trans rfl, (bC6 BK523.out 1).trans rfl⟩ (fun hHeld => ?_)
  generalize w88.drew = w89 at HO529 HO532 HO535 HO540 HO544 HO547 BK523 BK541 HB hHeld ⊢
  refine take_ (i := 0) (N := some 46) (v := ?_) (a' := ?_) #[true, false, false, false, false] rfl rfl (by kernel_rfl) (fun _ _ _ h => h) (Or.inl ⟨by rfl, ?_⟩) hHeld ?_ ?_
  rotate_left
  ·rintro w' ⟨s0, s1, s2, s3⟩
   go_simp
   with_reducible rfl
  rotate_left
  ·simp only [Act.put, List.setIfInBounds_toArray, List.set_cons_zero, List.set_cons_succ, i64_w, i32_w]
   rfl
  refine take_ (i := 1) (N := some 47) (v := ?_) (a' := ?_) #[true, true, false, false, false] rfl rfl (by kernel_rfl) (fun _ _ _ h => h) (Or.inl ⟨by rfl, ?_⟩) hHeld ?_ ?_
  rotate_left
  ·rintro w' ⟨s0, s1, s2, s3⟩
   go_simp
   with_reducible rfl
  rotate_left
  ·simp only [Act.put, List.setIfInBounds_toArray, List.set_cons_zero, List.set_cons_succ, i64_w, i32_w]
   rfl
  refine one_ (i := 2) (N := some 48) #[true, true, true, false, false] rfl rfl (by kernel_rfl) (by decide) (fun K hK => ?_)
  refine goes_ Try.func18 (by kernel_rfl) rfl #[.agg #[.int .i64 a0_0, .slice A0_1 l0_1.length c0_1]] (by rfl) rfl rfl na_ ?_
  with_reducible refine (laws_toNet.calls k a0_0 _ _ l0_1 t549 t550 _ ?side1 ?side2 A25.out).mono ?_
  (case side1 => exact nc_ (Kd.C_below HR0_1.out HB.out))
  (case side2 => exact HC0_1.out)
  rintro e w90 ⟨v551, rfl, ho0, hb⟩
  refine ⟨_, rfl, ?_⟩
  have n0_ := Aside0.mk (Kd.R_elder' (nr_ HO529.out) (Kd.R_base ho0) hb)
  have n1_ := Aside0.mk (rB6 (nr_ HO532.out) hb)
  have n2_ := Aside0.mk (rB6 (nr_ HO535.out) hb)
  have n3_ := Aside0.mk (Kd.R_elder' (nr_ HO540.out) (Kd.R_base ho0) hb)
  have n4_ := Aside0.mk (rB6 (nr_ HO544.out) hb)
  have n5_ := Aside0.mk (rB6 (nr_ HO547.out) hb)
  have n6_ := Aside0.mk (Kd.R_lower (Kd.R_new' (Kd.R_new' ho0 (Kd.R_lt (nr_ HO529.out))) (Kd.R_lt (nr_ HO540.out))) (eZ6 (ne_ HB.out)))
  have n7_ := Aside0.mk (blk_below (g := gb523) (o := .cells #[.int .i64 a0_0, .slice A0_1 l0_1.length c0_1] 37 (0, 0)) (nb_ BK523.out) hb)
  have n8_ := Aside0.mk (blk_below (g := gb541) (o := .cells #[.int .i64 t537, .slice Ao82 t538.length co82] 25 (0, 0)) (nb_ BK541.out) hb)
  have n9_ := Aside0.mk (below_step (ne_ HB.out) hb)
  clear HO529
  clear HO532
  clear HO535
  clear HO540
  clear HO544
  clear HO547
  clear BK523
  clear BK541
  clear HB
  have HO529 := n0_
  have HO532 := n1_
  have HO535 := n2_
  have HO540 := n3_
  have HO544 := n4_
  have HO547 := n5_
  have HO552 := n6_
  have BK523 := n7_
  have BK541 := n8_
  have HB := n9_
  clear n0_ n1_ n2_ n3_ n4_ n5_ n6_ n7_ n8_ n9_
  (try clear hb)
  (try clear hb2)
  (try clear hk)
  (try clear hi)
  (try clear ho0)
  obtain ⟨Ao91, co91, eo91⟩ := Kd.R_slice HO552.out
  (first | subst eo91 | (injection eo91 with f1_ f2_ f3_; have f4_ := f1_.symm; have f5_ := f3_.symm; clear f1_ f2_ f3_; subst f4_; subst f5_))
  refine hK.out _ _ ⟨(bC6 BK541.out 0).trans rfl, (bC6 BK541.out 1).trans rfl, (bC6 BK523.out 0).trans rfl, (bC6 BK523.out 1).trans rfl⟩ (fun hHeld => ?_)
  clear hK K
  refine norm_ (a' := ?_) ?_ ?_
  rotate_left
  ·show Act.put _ (some 48) _ = _
   simp only [Act.put, List.setIfInBounds_toArray, List.set_cons_zero, List.set_cons_succ, i64_w, i32_w]
   rfl
  refine one_ (i := 3) (N := some 49) #[true, true, true, true, false] rfl rfl (by kernel_rfl) (by decide) (fun K hK => ?_)
  refine goes_ Try.func20 (by kernel_rfl) rfl #[.agg #[.int .i64 t537, .slice Ao82 t538.length co82], .agg #[.int .i64 t549, .slice Ao91 t550.length co91]] (by rfl) rfl rfl na_ ?_
  with_reducible refine (laws_eqNet.calls k t537 _ _ t538 t549 _ _ t550 true _ ?side1 ?side2 ?side3 ?side4 A26.out).mono ?_
  (case side1 => exact nc_ (rR6 HO540.out).2.2)
  (case side2 => exact (rR6 HO540.out).2.1)
  (case side3 => exact nc_ (rR6 HO552.out).2.2)
  (case side4 => exact (rR6 HO552.out).2.1)
  rintro e w92 ⟨rfl, hb⟩
  refine ⟨_, rfl, ?_⟩
  have n0_ := Aside0.mk (rB6 (nr_ HO529.out) hb)
  have n1_ := Aside0.mk (rB6 (nr_ HO532.out) hb)
  have n2_ := Aside0.mk (rB6 (nr_ HO535.out) hb)
  have n3_ := Aside0.mk (rB6 (nr_ HO540.out) hb)
  have n4_ := Aside0.mk (rB6 (nr_ HO544.out) hb)
  have n5_ := Aside0.mk (rB6 (nr_ HO547.out) hb)
  have n6_ := Aside0.mk (rB6 (nr_ HO552.out) hb)
  have n7_ := Aside0.mk (blk_below (g := gb523) (o := .cells #[.int .i64 a0_0, .slice A0_1 l0_1.length c0_1] 37 (0, 0)) (nb_ BK523.out) hb)
  have n8_ := Aside0.mk (blk_below (g := gb541) (o := .cells #[.int .i64 t537, .slice Ao82 t538.length co82] 25 (0, 0)) (nb_ BK541.out) hb)
  have n9_ := Aside0.mk (below_step (ne_ HB.out) hb)
  clear HO529
  clear HO532
  clear HO535
  clear HO540
  clear HO544
  clear HO547
  clear HO552
  clear BK523
  clear BK541
  clear HB
  have HO529 := n0_
  have HO532 := n1_
  have HO535 := n2_
  have HO540 := n3_
  have HO544 := n4_
  have HO547 := n5_
  have HO552 := n6_
  have BK523 := n7_
  have BK541 := n8_
  have HB := n9_
  clear n0_ n1_ n2_ n3_ n4_ n5_ n6_ n7_ n8_ n9_
  (try clear hb)
  (try clear hb2)
  (try clear hk)
  (try clear hi)
  refine hK.out _ _ ⟨(bC6 BK541.out 0).trans rfl, (bC6 BK541.out 1).trans rfl, (bC6 BK523.out 0).trans rfl, (bC6 BK523.out 1).trans rfl⟩ (fun hHeld => ?_)
  clear hK K
  refine norm_ (a' := ?_) ?_ ?_
  rotate_left
  ·show Act.put _ (some 49) _ = _
   simp only [Act.put, List.setIfInBounds_toArray, List.set_cons_zero, List.set_cons_succ, i64_w, i32_w]
   rfl
  refine pure_ (i := 4) (N := some 50) (v := ?_) (a' := ?_) #[true, true, true, true, true] rfl rfl (by kernel_rfl) (fun _ _ _ h => h) (Or.inl ⟨by rfl, ?_⟩) ?_ ?_
  rotate_left
  ·intro w'
   go_simp
   with_reducible rfl
  rotate_left
  ·simp only [Act.put, List.setIfInBounds_toArray, List.set_cons_zero, List.set_cons_succ, i64_w, i32_w]
   rfl
  refine done_ (by kernel_rfl) ?_
  try go_wp2_with (first | ((with_reducible refine gate_callee (f := 19) rfl ?_); refine gl_ (some 53) Try.func19 #[.slice A1 l1.length c1] ?_; (with_reducible refine (laws_toTurnS.calls k _ _ l1 t554 _ ?side1 ?side2 A28.out).mono ?_); (case side1 => exact nc_ (Kd.C_below HR1.out HB.out)); (case side2 => exact HC1.out); rintro e w93 ⟨v555, rfl, ho0, hb⟩; refine ⟨_, rfl, ?_⟩; have HO556 := Aside0.mk (Kd.R_lower (Kd.R_new' (Kd.R_new' ho0 (Kd.R_lt (nr_ HO532.out))) (Kd.R_lt (nr_ HO544.out))) (eZ6 (ne_ HB.out))); replace HO529 := kR_ HO529 hb; replace HO532 := Aside0.mk (Kd.R_elder' (nr_ HO532.out) (Kd.R_base ho0) hb); replace HO535 := kR_ HO535 hb; replace HO540 := kR_ HO540 hb; replace HO544 := Aside0.mk (Kd.R_elder' (nr_ HO544.out) (Kd.R_base ho0) hb); replace HO547 := kR_ HO547 hb; replace HO552 := kR_ HO552 hb; replace BK523 := kb_ BK523 hb; replace BK541 := kb_ BK541 hb; replace HB := kB_ HB hb; (try clear hb); (try clear hb2); (try clear hk); (try clear hi); (try clear ho0); obtain ⟨Ao94, co94, eo94⟩ := Kd.R_slice HO556.out; subst eo94) | ((with_reducible refine gate_callee (f := 21) rfl ?_); refine gl_ (some 54) Try.func21 #[.slice Ao86 t542.length co86, .slice Ao94 t554.length co94] ?_; (with_reducible refine (laws_eqTurnS.calls k _ _ t542 _ _ t554 true _ ?side1 ?side2 ?side3 ?side4 A29.out).mono ?_); (case side1 => exact nc_ (rR6 HO544.out).2.2); (case side2 => exact (rR6 HO544.out).2.1); (case side3 => exact nc_ (rR6 HO556.out).2.2); (case side4 => exact (rR6 HO556.out).2.1); rintro e w95 ⟨rfl, hb⟩; refine ⟨_, rfl, ?_⟩; replace HO529 := kR_ HO529 hb; replace HO532 := kR_ HO532 hb; replace HO535 := kR_ HO535 hb; replace HO540 := kR_ HO540 hb; replace HO544 := kR_ HO544 hb; replace HO547 := kR_ HO547 hb; replace HO552 := kR_ HO552 hb; replace HO556 := kR_ HO556 hb; replace BK523 := kb_ BK523 hb; replace BK541 := kb_ BK541 hb; replace HB := kB_ HB hb; (try clear hb); (try clear hb2); (try clear hk); (try clear hi)) | ((with_reducible refine gate_callee (f := 27) rfl ?_); refine gl_ (some 58) Try.func27 #[.slice A2 l2.length c2] ?_; (with_reducible refine (laws_toIntS.calls k _ _ l2 t558 _ ?side1 ?side2 A31.out).mono ?_); (case side1 => exact nc_ (Kd.C_below HR2.out HB.out)); (case side2 => exact HC2.out); rintro e w96 ⟨v559, rfl, ho0, hb⟩; refine ⟨_, rfl, ?_⟩; have HO560 := Aside0.mk (Kd.R_lower (Kd.R_new' (Kd.R_new' ho0 (Kd.R_lt (nr_ HO535.out))) (Kd.R_lt (nr_ HO547.out))) (eZ6 (ne_ HB.out))); replace HO529 := kR_ HO529 hb; replace HO532 := kR_ HO532 hb; replace HO535 := Aside0.mk (Kd.R_elder' (nr_ HO535.out) (Kd.R_base ho0) hb); replace HO540 := kR_ HO540 hb; replace HO544 := kR_ HO544 hb; replace HO547 := Aside0.mk (Kd.R_elder' (nr_ HO547.out) (Kd.R_base ho0) hb); replace HO552 := kR_ HO552 hb; replace HO556 := kR_ HO556 hb; replace BK523 := kb_ BK523 hb; replace BK541 := kb_ BK541 hb; replace HB := kB_ HB hb; (try clear hb); (try clear hb2); (try clear hk); (try clear hi); (try clear ho0); obtain ⟨Ao97, co97, eo97⟩ := Kd.R_slice HO560.out; subst eo97) | ((with_reducible refine gate_callee (f := 28) rfl ?_); refine gl_ (some 59) Try.func28 #[.slice Ao87 t545.length co87, .slice Ao97 t558.length co97] ?_; (with_reducible refine (laws_eqIntS.calls k _ _ t545 _ _ t558 false _ ?side1 ?side2 ?side3 ?side4 A32.out).mono ?_); (case side1 => exact nc_ (rR6 HO547.out).2.2); (case side2 => exact (rR6 HO547.out).2.1); (case side3 => exact nc_ (rR6 HO560.out).2.2); (case side4 => exact (rR6 HO560.out).2.1); rintro e w' ⟨rfl, ⟨nd, rfl⟩⟩; refine ⟨_, rfl, ?_⟩))
  go_ret
  exact ⟨nw_, ne_ HB.out⟩
/-- THE ONE PURE STATEMENT of laws_FnExactTurnWalk. -/
def laws_FnExactTurnWalk.Pure : Prop := ∀ (a0_0 : Int) (l0_1 : List (S97)) (l1 : List (S76)) (l2 : List Int), (Lit.int .i64 a0_0).wf = true → l0_1.length ≤ maxLen → (∀ x ∈ l0_1, (Lit.int .i64 x.f0).wf = true ∧ (Lit.int .i64 x.f1).wf = true ∧ (Lit.int .i64 x.f2).wf = true ∧ (Lit.int .i64 x.f3).wf = true ∧ (Lit.int .i64 x.f4).wf = true) → l1.length ≤ maxLen → (∀ x ∈ l1, (Lit.int .i64 x.f0).wf = true ∧ (Lit.int .i64 x.f1).wf = true ∧ (Lit.int .i64 x.f2).wf = true) → l2.length ≤ maxLen → (∀ x ∈ l2, (Lit.int .i64 x).wf = true) → ∃ k, laws_FnExactTurnWalk.f k a0_0 l0_1 l1 l2 = some true
theorem laws_FnExactTurnWalk.walk (P : laws_FnExactTurnWalk.Pure) (a0_0 : Int) (A0_1 : Option Addr) (c0_1 : Nat) (l0_1 : List (S97)) (A1 : Option Addr) (c1 : Nat) (l1 : List (S76)) (A2 : Option Addr) (c2 : Nat) (l2 : List Int) (w : World) (hw0_0 : (Lit.int .i64 a0_0).wf = true) (hr0_1 : Kd.C k97 w A0_1 l0_1.length l0_1) (hm0_1 : l0_1.length ≤ maxLen) (hw0_1 : ∀ x ∈ l0_1, (Lit.int .i64 x.f0).wf = true ∧ (Lit.int .i64 x.f1).wf = true ∧ (Lit.int .i64 x.f2).wf = true ∧ (Lit.int .i64 x.f3).wf = true ∧ (Lit.int .i64 x.f4).wf = true) (hc0_1 : l0_1.length ≤ c0_1) (hr1 : Kd.C k76 w A1 l1.length l1) (hm1 : l1.length ≤ maxLen) (hw1 : ∀ x ∈ l1, (Lit.int .i64 x.f0).wf = true ∧ (Lit.int .i64 x.f1).wf = true ∧ (Lit.int .i64 x.f2).wf = true) (hc1 : l1.length ≤ c1) (hr2 : Kd.C (Kd.int .i64) w A2 l2.length l2) (hm2 : l2.length ≤ maxLen) (hw2 : ∀ x ∈ l2, (Lit.int .i64 x).wf = true) (hc2 : l2.length ≤ c2) :
    Calls Try.prog 6 #[.agg #[.int .i64 a0_0, .slice A0_1 l0_1.length c0_1], .slice A1 l1.length c1, .slice A2 l2.length c2] w fun e w' => e = .returned (.bool true) ∧ Below w.heap.size w w' := by
  obtain ⟨k, h⟩ := P a0_0 l0_1 l1 l2 hw0_0 hm0_1 hw0_1 hm1 hw1 hm2 hw2
  refine (laws_FnExactTurnWalk.calls k a0_0 A0_1 c0_1 l0_1 A1 c1 l1 A2 c2 l2 true w hr0_1 hc0_1 hr1 hc1 hr2 hc2 h).mono ?_
  rintro e w' ⟨rfl, hd⟩
  exact ⟨rfl, hd⟩

end Go.Proofs.Ytcfmejfmjjgoaaa.Print
