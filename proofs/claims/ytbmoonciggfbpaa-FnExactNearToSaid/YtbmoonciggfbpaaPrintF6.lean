-- Made by this session's own program (wip/patch_print.py, over the kit's print). Lean checks it.
import Derived.Test.YtbmoonciggfbpaaPrint0
import Derived.Test.YtbmoonciggfbpaaPrintB
import Derived.Test.YtbmoonciggfbpaaPrintF18
import Derived.Test.YtbmoonciggfbpaaPrintF19
import Derived.Test.YtbmoonciggfbpaaPrintF22
import Derived.Test.YtbmoonciggfbpaaPrintF24
import Derived.Test.YtbmoonciggfbpaaPrintF25
namespace Go.Proofs.Ytbmoonciggfbpaa.Print
open Go.RowKit Go.Proofs.YtbmoonciggfbpaaW.PrintWords Go.Proofs.YtbmoonciggfbpaaW.PrintLast Go.Proofs.YtbmoonciggfbpaaW.PrintMore Go.Proofs.YtbmoonciggfbpaaX
attribute [local go_sem] max2_int min2_int max_two min_two max_three min_three max_four min_four   -- for this text's walks alone
set_option linter.unusedVariables false
set_option linter.unusedSimpArgs false

abbrev rA6 := @Kd.R_alloc
abbrev rN6 := @Kd.R_drewN
abbrev rD6 := @Kd.R_drew
abbrev bS6 := @below_set
abbrev eN6 := @pw_below_drewN
abbrev bB6 := @blk_below
abbrev bC6 := @blk_cell
abbrev eS6 := @below_step
abbrev eZ6 := @below_size
abbrev rB6 := @Kd.R_below
abbrev rR6 := @Kd.R_reads'
/-! ### laws_FnExactNearTo: function 6 -/
def laws_FnExactNearTo.j0 : Nat → Int → List Int → List Int → Bool → Int → List (S84) → Option (Bool)
  | 0, _, _, _, _, _, _ => none
  | k + 1, x1, x6, x8, x46, x468000, x468001 => if x46 = true then (some false) else ((laws_markIntS.f k x8 1).bind fun bt493 => ((laws_heldIntS.f k bt493.2 1).bind fun t495 => (if t495 < 0 then (some false) else (if t495 = bt493.1 then ((laws_toNet.f k x468000 x468001).bind fun bt496 => ((impl_NearTo.f k bt496.1 bt496.2 x1).bind fun t500 => ((laws_eqIntS.f k t500 x6).bind fun t503 => (if t503 = true then ((laws_heldIntS.f k bt493.2 1).bind fun t504 => (if t504 < 0 then (some false) else (if t504 = bt493.1 then (some true) else (some false)))) else (some false))))) else (some false)))))
def laws_FnExactNearTo.f (k : Nat) (a0_0 : Int) (l0_1 : List (S84)) (a1 : Int) : Option (Bool) := (laws_szNet.f a0_0 l0_1 1048576).bind fun t468 => (if t468 < 0 then (some true) else ((laws_toNet.f k a0_0 l0_1).bind fun bt469 => ((spec_NearTo.f k bt469.1 bt469.2 a1).bind fun t473 => ((laws_toNet.f k a0_0 l0_1).bind fun bt476 => ((impl_NearTo.f k bt476.1 bt476.2 a1).bind fun t481 => ((laws_eqIntS.f k t481 t473).bind fun t484 => (if t484 = true then ((laws_toNet.f k a0_0 l0_1).bind fun bt485 => ((laws_eqNet.f k bt476.1 bt476.2 bt485.1 bt485.2).bind fun t489 => (if t489 = true then ((laws_markNet.f k bt476.1 bt476.2 1).bind fun bt490 => (if bt490.1 < 0 then (laws_FnExactNearTo.j0 k a1 t473 t481 true a0_0 l0_1) else ((laws_eqIntS.f k t481 t473).bind fun t492 => (laws_FnExactNearTo.j0 k a1 t473 t481 (!t492) a0_0 l0_1)))) else (some false)))) else (some false))))))))
theorem laws_FnExactNearTo.mono_l : ∀ k, (∀ y0 y1 y2 y3 y4 y5, LeO (laws_FnExactNearTo.j0 k y0 y1 y2 y3 y4 y5) (laws_FnExactNearTo.j0 (k + 1) y0 y1 y2 y3 y4 y5))
  | 0 => fun _ _ _ _ _ _ r h => by simp [laws_FnExactNearTo.j0] at h
  | k + 1 => by
    have ih0 := laws_FnExactNearTo.mono_l k
    · intro y0 y1 y2 y3 y4 y5
      unfold laws_FnExactNearTo.j0
      repeat' first
      | (with_reducible exact ih0 _ _ _ _ _ _)
      | (with_reducible exact impl_NearTo.mono _ _ _ _)
      | (with_reducible exact laws_eqIntS.mono _ _ _)
      | (with_reducible exact laws_eqNet.mono _ _ _ _ _)
      | (with_reducible exact laws_heldIntS.mono _ _ _)
      | (with_reducible exact laws_markIntS.mono _ _ _)
      | (with_reducible exact laws_markNet.mono _ _ _ _)
      | (with_reducible exact laws_toNet.mono _ _ _)
      | (with_reducible exact spec_NearTo.mono _ _ _ _)
      | (with_reducible exact LeO.refl _)
      | (with_reducible exact LeO.none _)
      | (with_reducible refine LeO.ite ?_ ?_)
      | (with_reducible refine LeO.bind ?_ (fun _ => ?_))
      | exact ih0 _ _ _ _ _ _
      | exact impl_NearTo.mono _ _ _ _
      | exact laws_eqIntS.mono _ _ _
      | exact laws_eqNet.mono _ _ _ _ _
      | exact laws_heldIntS.mono _ _ _
      | exact laws_markIntS.mono _ _ _
      | exact laws_markNet.mono _ _ _ _
      | exact laws_toNet.mono _ _ _
      | exact spec_NearTo.mono _ _ _ _
      | exact LeO.none _
      | refine LeO.ite ?_ ?_
      | refine LeO.bind ?_ (fun _ => ?_)
theorem laws_FnExactNearTo.mono : ∀ a0 a1 a2 k, LeO (laws_FnExactNearTo.f k a0 a1 a2) (laws_FnExactNearTo.f (k + 1) a0 a1 a2) := by
  intro a0 a1 a2 k
  have ih0 := laws_FnExactNearTo.mono_l k
  unfold laws_FnExactNearTo.f
  repeat' first
      | (with_reducible exact ih0 _ _ _ _ _ _)
      | (with_reducible exact impl_NearTo.mono _ _ _ _)
      | (with_reducible exact laws_eqIntS.mono _ _ _)
      | (with_reducible exact laws_eqNet.mono _ _ _ _ _)
      | (with_reducible exact laws_heldIntS.mono _ _ _)
      | (with_reducible exact laws_markIntS.mono _ _ _)
      | (with_reducible exact laws_markNet.mono _ _ _ _)
      | (with_reducible exact laws_toNet.mono _ _ _)
      | (with_reducible exact spec_NearTo.mono _ _ _ _)
      | (with_reducible exact LeO.refl _)
      | (with_reducible exact LeO.none _)
      | (with_reducible refine LeO.ite ?_ ?_)
      | (with_reducible refine LeO.bind ?_ (fun _ => ?_))
      | exact ih0 _ _ _ _ _ _
      | exact impl_NearTo.mono _ _ _ _
      | exact laws_eqIntS.mono _ _ _
      | exact laws_eqNet.mono _ _ _ _ _
      | exact laws_heldIntS.mono _ _ _
      | exact laws_markIntS.mono _ _ _
      | exact laws_markNet.mono _ _ _ _
      | exact laws_toNet.mono _ _ _
      | exact spec_NearTo.mono _ _ _ _
      | exact LeO.none _
      | refine LeO.ite ?_ ?_
      | refine LeO.bind ?_ (fun _ => ?_)
set_option maxHeartbeats 8000000 in
set_option maxRecDepth 100000 in
theorem laws_FnExactNearTo.calls (k : Nat) (a0_0 : Int) (A0_1 : Option Addr) (c0_1 : Nat) (l0_1 : List (S84)) (a1 : Int) (r : Bool) (w : World) (hr0_1 : Kd.C k84 w A0_1 l0_1.length l0_1) (hc0_1 : l0_1.length ≤ c0_1) (h : laws_FnExactNearTo.f k a0_0 l0_1 a1 = some r) :
    Calls Try.prog 6 #[.agg #[.int .i64 a0_0, .slice A0_1 l0_1.length c0_1], .int .i64 a1] w fun e w' => e = .returned (.bool r) ∧ Below w.heap.size w w' := by
  have hu39 := Try.underlying39
  have hu25 := Try.underlying25
  have HR0_1 := Aside0.mk hr0_1
  have HC0_1 := Aside0.mk hc0_1
  clear hr0_1 hc0_1
  have HB := Aside0.mk (Below.refl w.heap.size w)
  have H : ((laws_szNet.f a0_0 l0_1 1048576).bind fun t468 => (if t468 < 0 then (some true) else ((laws_toNet.f k a0_0 l0_1).bind fun bt469 => ((spec_NearTo.f k bt469.1 bt469.2 a1).bind fun t473 => ((laws_toNet.f k a0_0 l0_1).bind fun bt476 => ((impl_NearTo.f k bt476.1 bt476.2 a1).bind fun t481 => ((laws_eqIntS.f k t481 t473).bind fun t484 => (if t484 = true then ((laws_toNet.f k a0_0 l0_1).bind fun bt485 => ((laws_eqNet.f k bt476.1 bt476.2 bt485.1 bt485.2).bind fun t489 => (if t489 = true then ((laws_markNet.f k bt476.1 bt476.2 1).bind fun bt490 => (if bt490.1 < 0 then (laws_FnExactNearTo.j0 k a1 t473 t481 true a0_0 l0_1) else ((laws_eqIntS.f k t481 t473).bind fun t492 => (laws_FnExactNearTo.j0 k a1 t473 t481 (!t492) a0_0 l0_1)))) else (some false)))) else (some false))))))))) = some r := h
  clear h
  replace H := Option.bind_eq_some_iff.mp H
  obtain ⟨t468, A30, H⟩ := H
  replace H : (if t468 < 0 then (some true) else ((laws_toNet.f k a0_0 l0_1).bind fun bt469 => ((spec_NearTo.f k bt469.1 bt469.2 a1).bind fun t473 => ((laws_toNet.f k a0_0 l0_1).bind fun bt476 => ((impl_NearTo.f k bt476.1 bt476.2 a1).bind fun t481 => ((laws_eqIntS.f k t481 t473).bind fun t484 => (if t484 = true then ((laws_toNet.f k a0_0 l0_1).bind fun bt485 => ((laws_eqNet.f k bt476.1 bt476.2 bt485.1 bt485.2).bind fun t489 => (if t489 = true then ((laws_markNet.f k bt476.1 bt476.2 1).bind fun bt490 => (if bt490.1 < 0 then (laws_FnExactNearTo.j0 k a1 t473 t481 true a0_0 l0_1) else ((laws_eqIntS.f k t481 t473).bind fun t492 => (laws_FnExactNearTo.j0 k a1 t473 t481 (!t492) a0_0 l0_1)))) else (some false)))) else (some false)))))))) = some r := H
  have A3 := Aside0.mk A30
  clear A30
  by_cases c4 : t468 < 0
  ·rw [if_pos c4] at H
   have c4b0 : decide (t468 < 0) = true := decide_eq_true c4
   clear c4
   obtain rfl := Option.some.inj H
   go_enter Try.func6, Try.ntmps6
   go_wp2_with (first | ((with_reducible refine gate_dst (N := 2) rfl ?_); refine box_event ?hg (N := 2) ?hd (cs := #[.int .i64 a0_0, .slice A0_1 l0_1.length c0_1]) (t := 39) ?hr ?_; (case hd => rfl); (case hg => rfl); (case hr => first | (go_simp; done) | (go_simp; rfl)); intro gb467 hg w5 hbox hb; have n0_ := Aside0.mk (eS6 (ne_ HB.out) hb); have n1_ := Aside0.mk (hbox); have n2_ := Aside0.mk ((by rw [hg]; exact (eZ6 (ne_ HB.out)) : w.heap.size ≤ gb467)); have n3_ := Aside0.mk ((by rw [hg]; exact (eZ6 (ne_ HB.out)) : w.heap.size ≤ gb467)); clear HB; have HB := n0_; have BK467 := n1_; have GW467 := n2_; have GE467 := n3_; clear n0_ n1_ n2_ n3_; clear hb hbox hg; have hcz6_0 : w5.cell? ⟨gb467, 0, none⟩ = some (.int .i64 a0_0) := (bC6 BK467.out 0).trans rfl; have hcz6_1 : w5.cell? ⟨gb467, 1, none⟩ = some (.slice A0_1 l0_1.length c0_1) := (bC6 BK467.out 1).trans rfl; have hfz6_0 := blk_frozen BK467.out 0; have hfz6_1 := blk_frozen BK467.out 1) | ((with_reducible refine gate_callee (f := 21) rfl ?_); refine goesL_ (some 15) rfl rfl Try.func21 (by kernel_rfl) rfl #[.agg #[.int .i64 a0_0, .slice A0_1 l0_1.length c0_1], .int .i64 1048576] rfl na_ ?_; (with_reducible refine (laws_szNet.calls a0_0 _ _ l0_1 1048576 t468 _ ?side1 ?side2 A3.out).mono ?_); (case side1 => exact nc_ (Kd.C_below HR0_1.out HB.out)); (case side2 => exact HC0_1.out); rintro e w7 ⟨rfl, hb⟩; refine ⟨_, rfl, ?_⟩; have n0_ := Aside0.mk (bB6 (g := gb467) (o := .cells #[.int .i64 a0_0, .slice A0_1 l0_1.length c0_1] 39 (0, 0)) (nb_ BK467.out) hb); have n1_ := Aside0.mk (eS6 (ne_ HB.out) hb); clear BK467; clear HB; have BK467 := n0_; have HB := n1_; clear n0_ n1_; (try clear hb); (try clear hb2); (try clear hk); (try clear hi)))
   go_ret
   exact ⟨by first | rfl | (simp [errW_none, errW_some] <;> rfl) | (simp [*, errW_none, errW_some] <;> rfl), by repeat (first | (with_reducible first | exact HB.out | apply below_alloc | apply eN6 | apply below_drew1 | refine bS6 ?_ GE467.out) | exact HB.out)⟩
  ·rw [if_neg c4] at H
   have c4b0 : decide (t468 < 0) = false := decide_eq_false c4
   clear c4
   replace H := Option.bind_eq_some_iff.mp H
   obtain ⟨⟨t469, t470⟩, A80, H⟩ := H
   replace H : ((spec_NearTo.f k t469 t470 a1).bind fun t473 => ((laws_toNet.f k a0_0 l0_1).bind fun bt476 => ((impl_NearTo.f k bt476.1 bt476.2 a1).bind fun t481 => ((laws_eqIntS.f k t481 t473).bind fun t484 => (if t484 = true then ((laws_toNet.f k a0_0 l0_1).bind fun bt485 => ((laws_eqNet.f k bt476.1 bt476.2 bt485.1 bt485.2).bind fun t489 => (if t489 = true then ((laws_markNet.f k bt476.1 bt476.2 1).bind fun bt490 => (if bt490.1 < 0 then (laws_FnExactNearTo.j0 k a1 t473 t481 true a0_0 l0_1) else ((laws_eqIntS.f k t481 t473).bind fun t492 => (laws_FnExactNearTo.j0 k a1 t473 t481 (!t492) a0_0 l0_1)))) else (some false)))) else (some false)))))) = some r := H
   have A8 := Aside0.mk A80
   clear A80
   replace H := Option.bind_eq_some_iff.mp H
   obtain ⟨t473, A90, H⟩ := H
   replace H : ((laws_toNet.f k a0_0 l0_1).bind fun bt476 => ((impl_NearTo.f k bt476.1 bt476.2 a1).bind fun t481 => ((laws_eqIntS.f k t481 t473).bind fun t484 => (if t484 = true then ((laws_toNet.f k a0_0 l0_1).bind fun bt485 => ((laws_eqNet.f k bt476.1 bt476.2 bt485.1 bt485.2).bind fun t489 => (if t489 = true then ((laws_markNet.f k bt476.1 bt476.2 1).bind fun bt490 => (if bt490.1 < 0 then (laws_FnExactNearTo.j0 k a1 t473 t481 true a0_0 l0_1) else ((laws_eqIntS.f k t481 t473).bind fun t492 => (laws_FnExactNearTo.j0 k a1 t473 t481 (!t492) a0_0 l0_1)))) else (some false)))) else (some false))))) = some r := H
   have A9 := Aside0.mk A90
   clear A90
   replace H := Option.bind_eq_some_iff.mp H
   obtain ⟨⟨t476, t477⟩, A100, H⟩ := H
   replace H : ((impl_NearTo.f k t476 t477 a1).bind fun t481 => ((laws_eqIntS.f k t481 t473).bind fun t484 => (if t484 = true then ((laws_toNet.f k a0_0 l0_1).bind fun bt485 => ((laws_eqNet.f k t476 t477 bt485.1 bt485.2).bind fun t489 => (if t489 = true then ((laws_markNet.f k t476 t477 1).bind fun bt490 => (if bt490.1 < 0 then (laws_FnExactNearTo.j0 k a1 t473 t481 true a0_0 l0_1) else ((laws_eqIntS.f k t481 t473).bind fun t492 => (laws_FnExactNearTo.j0 k a1 t473 t481 (!t492) a0_0 l0_1)))) else (some false)))) else (some false)))) = some r := H
   have A10 := Aside0.mk A100
   clear A100
   replace H := Option.bind_eq_some_iff.mp H
   obtain ⟨t481, A110, H⟩ := H
   replace H : ((laws_eqIntS.f k t481 t473).bind fun t484 => (if t484 = true then ((laws_toNet.f k a0_0 l0_1).bind fun bt485 => ((laws_eqNet.f k t476 t477 bt485.1 bt485.2).bind fun t489 => (if t489 = true then ((laws_markNet.f k t476 t477 1).bind fun bt490 => (if bt490.1 < 0 then (laws_FnExactNearTo.j0 k a1 t473 t481 true a0_0 l0_1) else ((laws_eqIntS.f k t481 t473).bind fun t492 => (laws_FnExactNearTo.j0 k a1 t473 t481 (!t492) a0_0 l0_1)))) else (some false)))) else (some false))) = some r := H
   have A11 := Aside0.mk A110
   clear A110
   replace H := Option.bind_eq_some_iff.mp H
   obtain ⟨t484, A120, H⟩ := H
   replace H : (if t484 = true then ((laws_toNet.f k a0_0 l0_1).bind fun bt485 => ((laws_eqNet.f k t476 t477 bt485.1 bt485.2).bind fun t489 => (if t489 = true then ((laws_markNet.f k t476 t477 1).bind fun bt490 => (if bt490.1 < 0 then (laws_FnExactNearTo.j0 k a1 t473 t481 true a0_0 l0_1) else ((laws_eqIntS.f k t481 t473).bind fun t492 => (laws_FnExactNearTo.j0 k a1 t473 t481 (!t492) a0_0 l0_1)))) else (some false)))) else (some false)) = some r := H
   have A12 := Aside0.mk A120
   clear A120
   by_cases c13 : t484 = true
   ·subst c13
    have H1 : ((laws_toNet.f k a0_0 l0_1).bind fun bt485 => ((laws_eqNet.f k t476 t477 bt485.1 bt485.2).bind fun t489 => (if t489 = true then ((laws_markNet.f k t476 t477 1).bind fun bt490 => (if bt490.1 < 0 then (laws_FnExactNearTo.j0 k a1 t473 t481 true a0_0 l0_1) else ((laws_eqIntS.f k t481 t473).bind fun t492 => (laws_FnExactNearTo.j0 k a1 t473 t481 (!t492) a0_0 l0_1)))) else (some false)))) = some r := by rw [if_pos rfl] at H; exact H
    clear H
    have H := H1
    clear H1
    replace H := Option.bind_eq_some_iff.mp H
    obtain ⟨⟨t485, t486⟩, A140, H⟩ := H
    replace H : ((laws_eqNet.f k t476 t477 t485 t486).bind fun t489 => (if t489 = true then ((laws_markNet.f k t476 t477 1).bind fun bt490 => (if bt490.1 < 0 then (laws_FnExactNearTo.j0 k a1 t473 t481 true a0_0 l0_1) else ((laws_eqIntS.f k t481 t473).bind fun t492 => (laws_FnExactNearTo.j0 k a1 t473 t481 (!t492) a0_0 l0_1)))) else (some false))) = some r := H
    have A14 := Aside0.mk A140
    clear A140
    replace H := Option.bind_eq_some_iff.mp H
    obtain ⟨t489, A150, H⟩ := H
    replace H : (if t489 = true then ((laws_markNet.f k t476 t477 1).bind fun bt490 => (if bt490.1 < 0 then (laws_FnExactNearTo.j0 k a1 t473 t481 true a0_0 l0_1) else ((laws_eqIntS.f k t481 t473).bind fun t492 => (laws_FnExactNearTo.j0 k a1 t473 t481 (!t492) a0_0 l0_1)))) else (some false)) = some r := H
    have A15 := Aside0.mk A150
    clear A150
    by_cases c16 : t489 = true
    ·subst c16
     have H1 : ((laws_markNet.f k t476 t477 1).bind fun bt490 => (if bt490.1 < 0 then (laws_FnExactNearTo.j0 k a1 t473 t481 true a0_0 l0_1) else ((laws_eqIntS.f k t481 t473).bind fun t492 => (laws_FnExactNearTo.j0 k a1 t473 t481 (!t492) a0_0 l0_1)))) = some r := by rw [if_pos rfl] at H; exact H
     clear H
     have H := H1
     clear H1
     replace H := Option.bind_eq_some_iff.mp H
     obtain ⟨⟨t490, t491⟩, A170, H⟩ := H
     replace H : (if t490 < 0 then (laws_FnExactNearTo.j0 k a1 t473 t481 true a0_0 l0_1) else ((laws_eqIntS.f k t481 t473).bind fun t492 => (laws_FnExactNearTo.j0 k a1 t473 t481 (!t492) a0_0 l0_1))) = some r := H
     have A17 := Aside0.mk A170
     clear A170
     have HC18 := Aside0.mk H
     clear H
     go_enter Try.func6, Try.ntmps6
     try go_wp2_with (first | ((with_reducible refine gate_dst (N := 2) rfl ?_); refine box_event ?hg (N := 2) ?hd (cs := #[.int .i64 a0_0, .slice A0_1 l0_1.length c0_1]) (t := 39) ?hr ?_; (case hd => rfl); (case hg => rfl); (case hr => first | (go_simp; done) | (go_simp; rfl)); intro gb467 hg w19 hbox hb; have n0_ := Aside0.mk (eS6 (ne_ HB.out) hb); have n1_ := Aside0.mk (hbox); have n2_ := Aside0.mk ((by rw [hg]; exact (eZ6 (ne_ HB.out)) : w.heap.size ≤ gb467)); have n3_ := Aside0.mk ((by rw [hg]; exact (eZ6 (ne_ HB.out)) : w.heap.size ≤ gb467)); clear HB; have HB := n0_; have BK467 := n1_; have GW467 := n2_; have GE467 := n3_; clear n0_ n1_ n2_ n3_; clear hb hbox hg; have hcz20_0 : w19.cell? ⟨gb467, 0, none⟩ = some (.int .i64 a0_0) := (bC6 BK467.out 0).trans rfl; have hcz20_1 : w19.cell? ⟨gb467, 1, none⟩ = some (.slice A0_1 l0_1.length c0_1) := (bC6 BK467.out 1).trans rfl; have hfz20_0 := blk_frozen BK467.out 0; have hfz20_1 := blk_frozen BK467.out 1) | ((with_reducible refine gate_callee (f := 21) rfl ?_); refine goesL_ (some 15) rfl rfl Try.func21 (by kernel_rfl) rfl #[.agg #[.int .i64 a0_0, .slice A0_1 l0_1.length c0_1], .int .i64 1048576] rfl na_ ?_; (with_reducible refine (laws_szNet.calls a0_0 _ _ l0_1 1048576 t468 _ ?side1 ?side2 A3.out).mono ?_); (case side1 => exact nc_ (Kd.C_below HR0_1.out HB.out)); (case side2 => exact HC0_1.out); rintro e w21 ⟨rfl, hb⟩; refine ⟨_, rfl, ?_⟩; have n0_ := Aside0.mk (bB6 (g := gb467) (o := .cells #[.int .i64 a0_0, .slice A0_1 l0_1.length c0_1] 39 (0, 0)) (nb_ BK467.out) hb); have n1_ := Aside0.mk (eS6 (ne_ HB.out) hb); clear BK467; clear HB; have BK467 := n0_; have HB := n1_; clear n0_ n1_; (try clear hb); (try clear hb2); (try clear hk); (try clear hi); have hcz22_0 : w21.cell? ⟨gb467, 0, none⟩ = some (.int .i64 a0_0) := (bC6 BK467.out 0).trans rfl; have hcz22_1 : w21.cell? ⟨gb467, 1, none⟩ = some (.slice A0_1 l0_1.length c0_1) := (bC6 BK467.out 1).trans rfl; have hfz22_0 := blk_frozen BK467.out 0; have hfz22_1 := blk_frozen BK467.out 1) | ((with_reducible refine gate_callee (f := 22) rfl ?_); refine goesL_ (some 19) rfl rfl Try.func22 (by kernel_rfl) rfl #[.agg #[.int .i64 a0_0, .slice A0_1 l0_1.length c0_1]] rfl na_ ?_; (with_reducible refine (laws_toNet.calls k a0_0 _ _ l0_1 t469 t470 _ ?side1 ?side2 A8.out).mono ?_); (case side1 => exact nc_ (Kd.C_below HR0_1.out HB.out)); (case side2 => exact HC0_1.out); rintro e w23 ⟨v471, rfl, ho0, hb⟩; refine ⟨_, rfl, ?_⟩; have n0_ := Aside0.mk (Kd.R_lower ho0 (eZ6 (ne_ HB.out))); have n1_ := Aside0.mk (bB6 (g := gb467) (o := .cells #[.int .i64 a0_0, .slice A0_1 l0_1.length c0_1] 39 (0, 0)) (nb_ BK467.out) hb); have n2_ := Aside0.mk (eS6 (ne_ HB.out) hb); clear BK467; clear HB; have HO472 := n0_; have BK467 := n1_; have HB := n2_; clear n0_ n1_ n2_; (try clear hb); (try clear hb2); (try clear hk); (try clear hi); (try clear ho0); obtain ⟨Ao24, co24, eo24⟩ := Kd.R_slice HO472.out; subst eo24) | ((with_reducible refine gate_callee (f := 19) rfl ?_); refine goesL_ (some 21) rfl rfl Try.func19 (by kernel_rfl) rfl #[.agg #[.int .i64 t469, .slice Ao24 t470.length co24], .int .i64 a1] rfl na_ ?_; (with_reducible refine (spec_NearTo.calls k t469 _ _ t470 a1 t473 _ ?side1 ?side2 A9.out).mono ?_); (case side1 => exact nc_ (rR6 HO472.out).2.2); (case side2 => exact (rR6 HO472.out).2.1); rintro e w25 ⟨v474, rfl, ho0, hb⟩; refine ⟨_, rfl, ?_⟩; have n0_ := Aside0.mk (rB6 (nr_ HO472.out) hb); have n1_ := Aside0.mk (Kd.R_lower ho0 (eZ6 (ne_ HB.out))); have n2_ := Aside0.mk (bB6 (g := gb467) (o := .cells #[.int .i64 a0_0, .slice A0_1 l0_1.length c0_1] 39 (0, 0)) (nb_ BK467.out) hb); have n3_ := Aside0.mk (eS6 (ne_ HB.out) hb); clear HO472; clear BK467; clear HB; have HO472 := n0_; have HO475 := n1_; have BK467 := n2_; have HB := n3_; clear n0_ n1_ n2_ n3_; (try clear hb); (try clear hb2); (try clear hk); (try clear hi); (try clear ho0); have hcz26_0 : w25.cell? ⟨gb467, 0, none⟩ = some (.int .i64 a0_0) := (bC6 BK467.out 0).trans rfl; have hcz26_1 : w25.cell? ⟨gb467, 1, none⟩ = some (.slice A0_1 l0_1.length c0_1) := (bC6 BK467.out 1).trans rfl; have hfz26_0 := blk_frozen BK467.out 0; have hfz26_1 := blk_frozen BK467.out 1) | ((with_reducible refine gate_callee (f := 22) rfl ?_); refine goesL_ (some 23) rfl rfl Try.func22 (by kernel_rfl) rfl #[.agg #[.int .i64 a0_0, .slice A0_1 l0_1.length c0_1]] rfl na_ ?_; (with_reducible refine (laws_toNet.calls k a0_0 _ _ l0_1 t476 t477 _ ?side1 ?side2 A10.out).mono ?_); (case side1 => exact nc_ (Kd.C_below HR0_1.out HB.out)); (case side2 => exact HC0_1.out); rintro e w27 ⟨v478, rfl, ho0, hb⟩; refine ⟨_, rfl, ?_⟩; have n0_ := Aside0.mk (Kd.R_elder' (nr_ HO472.out) (Kd.R_base ho0) hb); have n1_ := Aside0.mk (rB6 (nr_ HO475.out) hb); have n2_ := Aside0.mk (Kd.R_lower (Kd.R_new' ho0 (Kd.R_lt (nr_ HO472.out))) (eZ6 (ne_ HB.out))); have n3_ := Aside0.mk (bB6 (g := gb467) (o := .cells #[.int .i64 a0_0, .slice A0_1 l0_1.length c0_1] 39 (0, 0)) (nb_ BK467.out) hb); have n4_ := Aside0.mk (eS6 (ne_ HB.out) hb); clear HO472; clear HO475; clear BK467; clear HB; have HO472 := n0_; have HO475 := n1_; have HO479 := n2_; have BK467 := n3_; have HB := n4_; clear n0_ n1_ n2_ n3_ n4_; (try clear hb); (try clear hb2); (try clear hk); (try clear hi); (try clear ho0)) | ((with_reducible refine gate_dst (N := 7) rfl ?_); refine box_event ?hg (N := 7) ?hd (cs := #[.int .i64 0, .slice none 0 0]) (t := 25) ?hr ?_; (case hd => rfl); (case hg => rfl); (case hr => first | (go_simp; done) | (go_simp; rfl)); intro gb480 hg w28 hbox hb; have n0_ := Aside0.mk (rB6 (nr_ HO472.out) hb); have n1_ := Aside0.mk (rB6 (nr_ HO475.out) hb); have n2_ := Aside0.mk (rB6 (nr_ HO479.out) hb); have n3_ := Aside0.mk (bB6 (g := gb467) (o := .cells #[.int .i64 a0_0, .slice A0_1 l0_1.length c0_1] 39 (0, 0)) (nb_ BK467.out) hb); have n4_ := Aside0.mk (eS6 (ne_ HB.out) hb); have n5_ := Aside0.mk (hbox); have n6_ := Aside0.mk ((by rw [hg]; exact (eZ6 (ne_ HB.out)) : w.heap.size ≤ gb480)); have n7_ := Aside0.mk ((by rw [hg]; exact (eZ6 (ne_ HB.out)) : w.heap.size ≤ gb480)); have n8_ := Aside0.mk ((by rw [hg]; exact Nat.ne_of_lt (blk_lt (g := gb467) (o := .cells #[.int .i64 a0_0, .slice A0_1 l0_1.length c0_1] 39 (0, 0)) (nb_ BK467.out)) : gb467 ≠ gb480)); have n9_ := Aside0.mk ((by rw [hg]; exact Nat.ne_of_gt (blk_lt (g := gb467) (o := .cells #[.int .i64 a0_0, .slice A0_1 l0_1.length c0_1] 39 (0, 0)) (nb_ BK467.out)) : gb480 ≠ gb467)); clear HO472; clear HO475; clear HO479; clear BK467; clear HB; have HO472 := n0_; have HO475 := n1_; have HO479 := n2_; have BK467 := n3_; have HB := n4_; have BK480 := n5_; have GW480 := n6_; have GE480 := n7_; have NB467_480 := n8_; have NB480_467 := n9_; clear n0_ n1_ n2_ n3_ n4_ n5_ n6_ n7_ n8_ n9_; clear hb hbox hg; have hnb29 := NB480_467.out; have hnc29 := NB467_480.out; have hcz30_0 : w28.cell? ⟨gb480, 0, none⟩ = some (.int .i64 0) := (bC6 BK480.out 0).trans rfl; have hcz30_1 : w28.cell? ⟨gb480, 1, none⟩ = some (.slice none 0 0) := (bC6 BK480.out 1).trans rfl; have hfz30_0 := blk_frozen BK480.out 0; have hfz30_1 := blk_frozen BK480.out 1; obtain ⟨Ao31, co31, eo31⟩ := Kd.R_slice HO479.out; subst eo31) | ((with_reducible refine gate_callee (f := 18) rfl ?_); refine goesL_ (some 26) rfl rfl Try.func18 (by kernel_rfl) rfl #[.agg #[.int .i64 t476, .slice Ao31 t477.length co31], .int .i64 a1] rfl na_ ?_; (with_reducible refine (impl_NearTo.calls k t476 _ _ t477 a1 t481 _ ?side1 ?side2 A11.out).mono ?_); (case side1 => refine (rR6 (e := 33) (base := w.heap.size) (ok := fun k_ => (True ∧ some k_ ≠ (.slice Ao24 t470.length co24 : Value).ownBlock)) (n := t477.length) (c := co31) ?_).2.2; exact (by (with_reducible repeat (first | apply rA6 | apply rN6 | apply rD6)); exact (Kd.R_mono (Kd.R_far (p := ⟨gb480, 1, none⟩) (Kd.R_far (p := ⟨gb480, 0, none⟩) (Kd.R_types HO479.out BK480.out (by decide)) (fun _ hk => hk.2) (.int .i64 t476)) (fun _ hk => hk.2) (.slice Ao31 t477.length co31)) (fun _ h_ => h_.1)))); (case side2 => exact (rR6 HO479.out).2.1); rintro e w32 ⟨v482, rfl, ho0, hb⟩; refine ⟨_, rfl, ?_⟩; have n0_ := Aside0.mk (rB6 (by (with_reducible repeat (first | apply rA6 | apply rN6 | apply rD6)); exact (Kd.R_mono (Kd.R_far (p := ⟨gb480, 1, none⟩) (Kd.R_far (p := ⟨gb480, 0, none⟩) (Kd.R_types HO472.out BK480.out (by decide)) (fun _ hk => hk.2) (.int .i64 t476)) (fun _ hk => hk.2) (.slice Ao31 t477.length co31)) (fun _ h_ => h_.1))) hb); have n1_ := Aside0.mk (Kd.R_elder' (by (with_reducible repeat (first | apply rA6 | apply rN6 | apply rD6)); exact (Kd.R_mono (Kd.R_far (p := ⟨gb480, 1, none⟩) (Kd.R_far (p := ⟨gb480, 0, none⟩) (Kd.R_types HO475.out BK480.out (by decide)) (fun _ hk => hk.2) (.int .i64 t476)) (fun _ hk => hk.2) (.slice Ao31 t477.length co31)) (fun _ h_ => h_.1))) (Kd.R_base ho0) hb); have n2_ := Aside0.mk (rB6 (by (with_reducible repeat (first | apply rA6 | apply rN6 | apply rD6)); exact (Kd.R_mono (Kd.R_far (p := ⟨gb480, 1, none⟩) (Kd.R_far (p := ⟨gb480, 0, none⟩) (Kd.R_types HO479.out BK480.out (by decide)) (fun _ hk => hk.2) (.int .i64 t476)) (fun _ hk => hk.2) (.slice Ao31 t477.length co31)) (fun _ h_ => h_.1))) hb); have n3_ := Aside0.mk (Kd.R_lower (Kd.R_new' ho0 (Kd.R_lt (by (with_reducible repeat (first | apply rA6 | apply rN6 | apply rD6)); exact (Kd.R_mono (Kd.R_far (p := ⟨gb480, 1, none⟩) (Kd.R_far (p := ⟨gb480, 0, none⟩) (Kd.R_types HO475.out BK480.out (by decide)) (fun _ hk => hk.2) (.int .i64 t476)) (fun _ hk => hk.2) (.slice Ao31 t477.length co31)) (fun _ h_ => h_.1))))) (eZ6 (ne_ HB.out))); have n4_ := Aside0.mk (bB6 (g := gb467) (o := .cells #[.int .i64 a0_0, .slice A0_1 l0_1.length c0_1] 39 (0, 0)) (nbf_ BK467.out) hb); have n5_ := Aside0.mk (bB6 (g := gb480) (o := .cells #[.int .i64 t476, .slice Ao31 t477.length co31] 25 (0, 0)) (by (with_reducible repeat (first | refine blk_drewN ?_ _ | refine blk_drew ?_ | refine blk_alloc ?_ _)); refine blk_put (cs := #[.int .i64 t476, .slice none 0 0]) ?_ 1 _ rfl; (with_reducible repeat (first | refine blk_drewN ?_ _ | refine blk_drew ?_ | refine blk_alloc ?_ _)); refine blk_put (cs := #[.int .i64 0, .slice none 0 0]) ?_ 0 _ rfl; (with_reducible repeat (first | refine blk_drewN ?_ _ | refine blk_drew ?_ | refine blk_alloc ?_ _)); exact BK480.out) hb); have n6_ := Aside0.mk (eS6 (ne_ HB.out) hb); clear HO472; clear HO475; clear HO479; clear BK467; clear BK480; clear HB; have HO472 := n0_; have HO475 := n1_; have HO479 := n2_; have HO483 := n3_; have BK467 := n4_; have BK480 := n5_; have HB := n6_; clear n0_ n1_ n2_ n3_ n4_ n5_ n6_; (try clear hb); (try clear hb2); (try clear hk); (try clear hi); (try clear ho0); obtain ⟨Ao33, co33, eo33⟩ := Kd.R_slice HO483.out; subst eo33; obtain ⟨Ao34, co34, eo34⟩ := Kd.R_slice HO475.out; subst eo34) | ((with_reducible refine gate_callee (f := 23) rfl ?_); refine goesL_ (some 29) rfl rfl Try.func23 (by kernel_rfl) rfl #[.slice Ao33 t481.length co33, .slice Ao34 t473.length co34] rfl na_ ?_; (with_reducible refine (laws_eqIntS.calls k _ _ t481 _ _ t473 true _ ?side1 ?side2 ?side3 ?side4 A12.out).mono ?_); (case side1 => exact nc_ (rR6 HO483.out).2.2); (case side2 => exact (rR6 HO483.out).2.1); (case side3 => exact nc_ (rR6 HO475.out).2.2); (case side4 => exact (rR6 HO475.out).2.1); rintro e w' ⟨rfl, ⟨nd, rfl⟩⟩; refine ⟨_, rfl, ?_⟩))
     (first | (rw [drewN_self w32]; generalize hq_ : World.drewN w32 _ = w32; have n0_ : Aside0 (Kd.R k33 33 w32 w.heap.size (fun k_ => some k_ ≠ (.slice Ao31 t477.length co31 : Value).ownBlock) (.slice Ao24 t470.length co24) t470) := ⟨by rw [← hq_]; exact (by (with_reducible repeat (first | apply rA6 | apply rN6 | apply rD6)); exact Kd.R_mono HO472.out (fun _ hk => by first | exact hk.2 | trivial | simp_all))⟩; have n1_ : Aside0 (Kd.R (Kd.int .i64) 3 w32 w.heap.size (fun k_ => some k_ ≠ (.slice Ao33 t481.length co33 : Value).ownBlock) (.slice Ao34 t473.length co34) t473) := ⟨by rw [← hq_]; exact (by (with_reducible repeat (first | apply rA6 | apply rN6 | apply rD6)); exact Kd.R_mono HO475.out (fun _ hk => by first | exact hk.2 | trivial | simp_all))⟩; have n2_ : Aside0 (Kd.R k33 33 w32 w.heap.size (fun k_ => some k_ ≠ (.slice Ao24 t470.length co24 : Value).ownBlock) (.slice Ao31 t477.length co31) t477) := ⟨by rw [← hq_]; exact (by (with_reducible repeat (first | apply rA6 | apply rN6 | apply rD6)); exact Kd.R_mono HO479.out (fun _ hk => by first | exact hk.2 | trivial | simp_all))⟩; have n3_ : Aside0 (Kd.R (Kd.int .i64) 3 w32 w.heap.size (fun k_ => some k_ ≠ (.slice Ao34 t473.length co34 : Value).ownBlock) (.slice Ao33 t481.length co33) t481) := ⟨by rw [← hq_]; exact (by (with_reducible repeat (first | apply rA6 | apply rN6 | apply rD6)); exact Kd.R_mono HO483.out (fun _ hk => by first | exact hk.2 | trivial | simp_all))⟩; have n4_ : Aside0 (w32.heap[gb467]? = some (.cells #[.int .i64 a0_0, .slice A0_1 l0_1.length c0_1] 39 (0, 0))) := ⟨by rw [← hq_]; exact (nb_ BK467.out)⟩; have n5_ : Aside0 (w32.heap[gb480]? = some (.cells #[.int .i64 t476, .slice Ao31 t477.length co31] 25 (0, 0))) := ⟨by rw [← hq_]; exact (nb_ BK480.out)⟩; have n6_ : Aside0 (Below w.heap.size w w32) := ⟨by rw [← hq_]; exact (ne_ HB.out)⟩; clear HO472 HO475 HO479 HO483 BK467 BK480 HB hq_; have HO472 := n0_; have HO475 := n1_; have HO479 := n2_; have HO483 := n3_; have BK467 := n4_; have BK480 := n5_; have HB := n6_; clear n0_ n1_ n2_ n3_ n4_ n5_ n6_) | (have n0_ : Aside0 (Kd.R k33 33 w32 w.heap.size (fun k_ => some k_ ≠ (.slice Ao31 t477.length co31 : Value).ownBlock) (.slice Ao24 t470.length co24) t470) := ⟨(by (with_reducible repeat (first | apply rA6 | apply rN6 | apply rD6)); exact Kd.R_mono HO472.out (fun _ hk => by first | exact hk.2 | trivial | simp_all))⟩; have n1_ : Aside0 (Kd.R (Kd.int .i64) 3 w32 w.heap.size (fun k_ => some k_ ≠ (.slice Ao33 t481.length co33 : Value).ownBlock) (.slice Ao34 t473.length co34) t473) := ⟨(by (with_reducible repeat (first | apply rA6 | apply rN6 | apply rD6)); exact Kd.R_mono HO475.out (fun _ hk => by first | exact hk.2 | trivial | simp_all))⟩; have n2_ : Aside0 (Kd.R k33 33 w32 w.heap.size (fun k_ => some k_ ≠ (.slice Ao24 t470.length co24 : Value).ownBlock) (.slice Ao31 t477.length co31) t477) := ⟨(by (with_reducible repeat (first | apply rA6 | apply rN6 | apply rD6)); exact Kd.R_mono HO479.out (fun _ hk => by first | exact hk.2 | trivial | simp_all))⟩; have n3_ : Aside0 (Kd.R (Kd.int .i64) 3 w32 w.heap.size (fun k_ => some k_ ≠ (.slice Ao34 t473.length co34 : Value).ownBlock) (.slice Ao33 t481.length co33) t481) := ⟨(by (with_reducible repeat (first | apply rA6 | apply rN6 | apply rD6)); exact Kd.R_mono HO483.out (fun _ hk => by first | exact hk.2 | trivial | simp_all))⟩; have n4_ : Aside0 (w32.heap[gb467]? = some (.cells #[.int .i64 a0_0, .slice A0_1 l0_1.length c0_1] 39 (0, 0))) := ⟨(nb_ BK467.out)⟩; have n5_ : Aside0 (w32.heap[gb480]? = some (.cells #[.int .i64 t476, .slice Ao31 t477.length co31] 25 (0, 0))) := ⟨(nb_ BK480.out)⟩; have n6_ : Aside0 (Below w.heap.size w w32) := ⟨(ne_ HB.out)⟩; clear HO472 HO475 HO479 HO483 BK467 BK480 HB; have HO472 := n0_; have HO475 := n1_; have HO479 := n2_; have HO483 := n3_; have BK467 := n4_; have BK480 := n5_; have HB := n6_; clear n0_ n1_ n2_ n3_ n4_ n5_ n6_))
     have n0_ := Aside0.mk (rD6 HO472.out)
     have n1_ := Aside0.mk (rD6 HO475.out)
     have n2_ := Aside0.mk (rD6 HO479.out)
     have n3_ := Aside0.mk (rD6 HO483.out)
     have n4_ := Aside0.mk (blk_drew BK467.out)
     have n5_ := Aside0.mk (blk_drew BK480.out)
     have n6_ := Aside0.mk (below_drew1 HB.out)
     clear HO472
     clear HO475
     clear HO479
     clear HO483
     clear BK467
     clear BK480
     clear HB
     have HO472 := n0_
     have HO475 := n1_
     have HO479 := n2_
     have HO483 := n3_
     have BK467 := n4_
     have BK480 := n5_
     have HB := n6_
     clear n0_ n1_ n2_ n3_ n4_ n5_ n6_
     refine start_ (n := 5) (S := fun w' => w'.cell? ⟨gb480, 0, none⟩ = some (.int .i64 t476) ∧ w'.cell? ⟨gb480, 1, none⟩ = some (.slice Ao31 t477.length co31) ∧ w'.cell? ⟨gb467, 0, none⟩ = some (.int .i64 a0_0) ∧ w'.cell? ⟨gb467, 1, none⟩ = some (.slice A0_1 l0_1.length c0_1)) (ds := []) #[false, false, false, false, false] (by kernel_rfl) rfl rfl ⟨(bC6 BK480.out 0).trans rfl, (bC6 BK480.out 1).trans rfl, (bC6 BK467.out 0).trans rfl, (bC6 BK467.out 1).trans rfl⟩ (fun hHeld => ?_)
     generalize w32.drew = w35 at HO472 HO475 HO479 HO483 BK467 BK480 HB hHeld ⊢
     refine take_ (i := 0) (N := some 31) (v := ?_) (a' := ?_) #[true, false, false, false, false] rfl rfl (by kernel_rfl) (fun _ _ _ h => h) (Or.inl ⟨by rfl, ?_⟩) hHeld ?_ ?_
     rotate_left
     ·rintro w' ⟨s0, s1, s2, s3⟩
      go_simp
      with_reducible rfl
     rotate_left
     ·simp only [Act.put, List.setIfInBounds_toArray, List.set_cons_zero, List.set_cons_succ, i64_w, i32_w]
      rfl
     refine take_ (i := 1) (N := some 32) (v := ?_) (a' := ?_) #[true, true, false, false, false] rfl rfl (by kernel_rfl) (fun _ _ _ h => h) (Or.inl ⟨by rfl, ?_⟩) hHeld ?_ ?_
     rotate_left
     ·rintro w' ⟨s0, s1, s2, s3⟩
      go_simp
      with_reducible rfl
     rotate_left
     ·simp only [Act.put, List.setIfInBounds_toArray, List.set_cons_zero, List.set_cons_succ, i64_w, i32_w]
      rfl
     refine one_ (i := 2) (N := some 33) #[true, true, true, false, false] rfl rfl (by kernel_rfl) (by decide) (fun K hK => ?_)
     refine goes_ Try.func22 (by kernel_rfl) rfl #[.agg #[.int .i64 a0_0, .slice A0_1 l0_1.length c0_1]] (by rfl) rfl rfl na_ ?_
     with_reducible refine (laws_toNet.calls k a0_0 _ _ l0_1 t485 t486 _ ?side1 ?side2 A14.out).mono ?_
     (case side1 => exact nc_ (Kd.C_below HR0_1.out HB.out))
     (case side2 => exact HC0_1.out)
     rintro e w36 ⟨v487, rfl, ho0, hb⟩
     refine ⟨_, rfl, ?_⟩
     have n0_ := Aside0.mk (Kd.R_elder' (nr_ HO472.out) (Kd.R_base ho0) hb)
     have n1_ := Aside0.mk (rB6 (nr_ HO475.out) hb)
     have n2_ := Aside0.mk (Kd.R_elder' (nr_ HO479.out) (Kd.R_base ho0) hb)
     have n3_ := Aside0.mk (rB6 (nr_ HO483.out) hb)
     have n4_ := Aside0.mk (Kd.R_lower (Kd.R_new' (Kd.R_new' ho0 (Kd.R_lt (nr_ HO472.out))) (Kd.R_lt (nr_ HO479.out))) (eZ6 (ne_ HB.out)))
     have n5_ := Aside0.mk (bB6 (g := gb467) (o := .cells #[.int .i64 a0_0, .slice A0_1 l0_1.length c0_1] 39 (0, 0)) (nb_ BK467.out) hb)
     have n6_ := Aside0.mk (bB6 (g := gb480) (o := .cells #[.int .i64 t476, .slice Ao31 t477.length co31] 25 (0, 0)) (nb_ BK480.out) hb)
     have n7_ := Aside0.mk (eS6 (ne_ HB.out) hb)
     clear HO472
     clear HO475
     clear HO479
     clear HO483
     clear BK467
     clear BK480
     clear HB
     have HO472 := n0_
     have HO475 := n1_
     have HO479 := n2_
     have HO483 := n3_
     have HO488 := n4_
     have BK467 := n5_
     have BK480 := n6_
     have HB := n7_
     clear n0_ n1_ n2_ n3_ n4_ n5_ n6_ n7_
     (try clear hb)
     (try clear hb2)
     (try clear hk)
     (try clear hi)
     (try clear ho0)
     obtain ⟨Ao37, co37, eo37⟩ := Kd.R_slice HO488.out
     (first | subst eo37 | (injection eo37 with f1_ f2_ f3_; have f4_ := f1_.symm; have f5_ := f3_.symm; clear f1_ f2_ f3_; subst f4_; subst f5_))
     refine hK.out _ _ ⟨(bC6 BK480.out 0).trans rfl, (bC6 BK480.out 1).trans rfl, (bC6 BK467.out 0).trans rfl, (bC6 BK467.out 1).trans rfl⟩ (fun hHeld => ?_)
     clear hK K
     refine norm_ (a' := ?_) ?_ ?_
     rotate_left
     ·show Act.put _ (some 33) _ = _
      simp only [Act.put, List.setIfInBounds_toArray, List.set_cons_zero, List.set_cons_succ, i64_w, i32_w]
      rfl
     refine one_ (i := 3) (N := some 34) #[true, true, true, true, false] rfl rfl (by kernel_rfl) (by decide) (fun K hK => ?_)
     refine goes_ Try.func24 (by kernel_rfl) rfl #[.agg #[.int .i64 t476, .slice Ao31 t477.length co31], .agg #[.int .i64 t485, .slice Ao37 t486.length co37]] (by rfl) rfl rfl na_ ?_
     with_reducible refine (laws_eqNet.calls k t476 _ _ t477 t485 _ _ t486 true _ ?side1 ?side2 ?side3 ?side4 A15.out).mono ?_
     (case side1 => exact nc_ (rR6 HO479.out).2.2)
     (case side2 => exact (rR6 HO479.out).2.1)
     (case side3 => exact nc_ (rR6 HO488.out).2.2)
     (case side4 => exact (rR6 HO488.out).2.1)
     rintro e w38 ⟨rfl, hb⟩
     refine ⟨_, rfl, ?_⟩
     have n0_ := Aside0.mk (rB6 (nr_ HO472.out) hb)
     have n1_ := Aside0.mk (rB6 (nr_ HO475.out) hb)
     have n2_ := Aside0.mk (rB6 (nr_ HO479.out) hb)
     have n3_ := Aside0.mk (rB6 (nr_ HO483.out) hb)
     have n4_ := Aside0.mk (rB6 (nr_ HO488.out) hb)
     have n5_ := Aside0.mk (bB6 (g := gb467) (o := .cells #[.int .i64 a0_0, .slice A0_1 l0_1.length c0_1] 39 (0, 0)) (nb_ BK467.out) hb)
     have n6_ := Aside0.mk (bB6 (g := gb480) (o := .cells #[.int .i64 t476, .slice Ao31 t477.length co31] 25 (0, 0)) (nb_ BK480.out) hb)
     have n7_ := Aside0.mk (eS6 (ne_ HB.out) hb)
     clear HO472
     clear HO475
     clear HO479
     clear HO483
     clear HO488
     clear BK467
     clear BK480
     clear HB
     have HO472 := n0_
     have HO475 := n1_
     have HO479 := n2_
     have HO483 := n3_
     have HO488 := n4_
     have BK467 := n5_
     have BK480 := n6_
     have HB := n7_
     clear n0_ n1_ n2_ n3_ n4_ n5_ n6_ n7_
     (try clear hb)
     (try clear hb2)
     (try clear hk)
     (try clear hi)
     refine hK.out _ _ ⟨(bC6 BK480.out 0).trans rfl, (bC6 BK480.out 1).trans rfl, (bC6 BK467.out 0).trans rfl, (bC6 BK467.out 1).trans rfl⟩ (fun hHeld => ?_)
     clear hK K
     refine norm_ (a' := ?_) ?_ ?_
     rotate_left
     ·show Act.put _ (some 34) _ = _
      simp only [Act.put, List.setIfInBounds_toArray, List.set_cons_zero, List.set_cons_succ, i64_w, i32_w]
      rfl
     refine pure_ (i := 4) (N := some 35) (v := ?_) (a' := ?_) #[true, true, true, true, true] rfl rfl (by kernel_rfl) (fun _ _ _ h => h) (Or.inl ⟨by rfl, ?_⟩) ?_ ?_
     rotate_left
     ·intro w'
      go_simp
      with_reducible rfl
     rotate_left
     ·simp only [Act.put, List.setIfInBounds_toArray, List.set_cons_zero, List.set_cons_succ, i64_w, i32_w]
      rfl
     refine done_ (by kernel_rfl) ?_
     have hcz39_0 : w38.cell? ⟨gb480, 0, none⟩ = some (.int .i64 t476) := (bC6 BK480.out 0).trans rfl
     have hcz39_1 : w38.cell? ⟨gb480, 1, none⟩ = some (.slice Ao31 t477.length co31) := (bC6 BK480.out 1).trans rfl
     have hfz39_0 := blk_frozen BK480.out 0
     have hfz39_1 := blk_frozen BK480.out 1
     go_upto_region 14 with (first | ((with_reducible refine gate_callee (f := 25) rfl ?_); refine goesL_ (some 38) rfl rfl Try.func25 (by kernel_rfl) rfl #[.agg #[.int .i64 t476, .slice Ao31 t477.length co31], .int .i64 1] rfl na_ ?_; (with_reducible refine (laws_markNet.calls k t476 (fun k_ => some k_ = (.slice Ao31 t477.length co31 : Value).ownBlock) (.slice Ao31 t477.length co31) t477 1 t490 t491 w _ ?side1 ?side2 A17.out).mono ?_); (case side1 => repeat (first | (with_reducible first | exact HB.out | apply below_alloc | apply eN6 | apply below_drew1 | refine bS6 ?_ GE467.out | refine bS6 ?_ GE480.out) | exact HB.out)); (case side2 => exact Kd.R_tight rfl HO479.out); rintro e w40 ⟨rfl, hy0, hb, hkp⟩; refine ⟨_, rfl, ?_⟩; have n0_ := Aside0.mk (blk_kept (g := gb467) (o := .cells #[.int .i64 a0_0, .slice A0_1 l0_1.length c0_1] 39 (0, 0)) (nb_ BK467.out) hkp (fun hs_ => (fun e_ => (Kd.R_ne HO479.out BK467.out (by decide)) e_) hs_)); have n1_ := Aside0.mk (Kd.R_mono (ok' := fun k_ => some k_ ≠ (.slice Ao31 t477.length co31 : Value).ownBlock ∧ some k_ ≠ (.slice Ao37 t486.length co37 : Value).ownBlock) (Kd.R_keptB (HO472.out) hkp (fun k_ hk_ hs_ => (hk_.1) hs_)) (fun k_ hk_ => ⟨hk_.1.1, hk_.1.2⟩)); have n2_ := Aside0.mk (Kd.R_mono (ok' := fun k_ => some k_ ≠ (.slice Ao33 t481.length co33 : Value).ownBlock) (Kd.R_keptB ((Kd.R_apart' HO475.out (Kd.R_typed HO479.out) (by decide))) hkp (fun k_ hk_ hs_ => (hk_.2) hs_)) (fun k_ hk_ => hk_.1.1)); have n3_ := Aside0.mk (Kd.R_reok rfl hy0 (fun k_ e_ => HO479.out.1 k_ e_)); have n4_ := Aside0.mk (blk_kept (g := gb480) (o := .cells #[.int .i64 t476, .slice Ao31 t477.length co31] 25 (0, 0)) (nb_ BK480.out) hkp (fun hs_ => (fun e_ => (Kd.R_ne HO479.out BK480.out (by decide)) e_) hs_)); have n5_ := Aside0.mk (Kd.R_mono (ok' := fun k_ => some k_ ≠ (.slice Ao34 t473.length co34 : Value).ownBlock) (Kd.R_keptB ((Kd.R_apart' HO483.out (Kd.R_typed HO479.out) (by decide))) hkp (fun k_ hk_ hs_ => (hk_.2) hs_)) (fun k_ hk_ => hk_.1.1)); have n6_ := Aside0.mk (Kd.R_mono (ok' := fun k_ => some k_ ≠ (.slice Ao24 t470.length co24 : Value).ownBlock ∧ some k_ ≠ (.slice Ao31 t477.length co31 : Value).ownBlock) (Kd.R_keptB (HO488.out) hkp (fun k_ hk_ hs_ => (hk_.2) hs_)) (fun k_ hk_ => ⟨hk_.1.1.2, hk_.1.2⟩)); have n7_ := Aside0.mk (hb); clear BK467; clear HO472; clear HO475; clear HO479; clear BK480; clear HO483; clear HO488; clear HB; have BK467 := n0_; have HO472 := n1_; have HO475 := n2_; have HO479 := n3_; have BK480 := n4_; have HO483 := n5_; have HO488 := n6_; have HB := n7_; clear n0_ n1_ n2_ n3_ n4_ n5_ n6_ n7_; (try clear hb); (try clear hkp); (try clear hy0)))
     (try simp only [Act.put, List.setIfInBounds_toArray, List.set_cons_zero, List.set_cons_succ])
     go_cut [46] (fun v46 wc => ∃ (kq : Nat) (x46_17 : Bool), v46 = .bool x46_17 ∧ Aside0 (laws_FnExactNearTo.j0 kq a1 t473 t481 x46_17 a0_0 l0_1 = some r) ∧ Aside0 (kq ≤ k) ∧ Aside0 (Kd.R (Kd.int .i64) 3 wc w.heap.size (fun k_ => some k_ ≠ ((.slice Ao33 t481.length co33) : Value).ownBlock) (.slice Ao34 t473.length co34) t473) ∧ Aside0 (Kd.R (Kd.int .i64) 3 wc w.heap.size (fun k_ => some k_ ≠ ((.slice Ao34 t473.length co34) : Value).ownBlock) (.slice Ao33 t481.length co33) t481) ∧ Aside0 (Kd.R k33 33 wc w.heap.size (fun _ => True) (.slice Ao31 t477.length co31) t491) ∧ Aside0 (wc.heap[gb467]? = some (.cells #[.int .i64 a0_0, (.slice A0_1 l0_1.length c0_1)] 39 (0, 0))) ∧ Aside0 (wc.heap[gb480]? = some (.cells #[.int .i64 t476, (.slice Ao31 t477.length co31)] 25 (0, 0))) ∧ Aside0 (Below w.heap.size w wc))
     case first =>
      have H := HC18.out
      clear HC18
      by_cases c41 : t490 < 0
      ·rw [if_pos c41] at H
       have c41b0 : decide (t490 < 0) = true := decide_eq_true c41
       clear c41
       (first | rw [c41b0] | (simp only [i64_w, i32_w]; rw [c41b0]) | skip)
       have H' := Aside0.mk H
       clear H
       go_wp2
       go_meet
       case rel => exact ⟨_, (true), ns_, H', ⟨by first | omega | exact Nat.le_refl _⟩, ⟨by (with_reducible repeat (first | apply rA6 | apply rN6 | apply rD6)); exact HO475.out⟩, ⟨by (with_reducible repeat (first | apply rA6 | apply rN6 | apply rD6)); exact HO483.out⟩, ⟨by (with_reducible repeat (first | apply rA6 | apply rN6 | apply rD6)); exact Kd.R_mono HO479.out (fun _ hk => trivial)⟩, ⟨by (with_reducible repeat (first | refine blk_drewN ?_ _ | refine blk_drew ?_ | refine blk_alloc ?_ _)); exact BK467.out⟩, ⟨by (with_reducible repeat (first | refine blk_drewN ?_ _ | refine blk_drew ?_ | refine blk_alloc ?_ _)); exact BK480.out⟩, ⟨by repeat (first | (with_reducible first | exact HB.out | apply below_alloc | apply eN6 | apply below_drew1 | refine bS6 ?_ GE467.out | refine bS6 ?_ GE480.out) | exact HB.out)⟩⟩
      ·rw [if_neg c41] at H
       have c41b0 : decide (t490 < 0) = false := decide_eq_false c41
       clear c41
       (first | rw [c41b0] | (simp only [i64_w, i32_w]; rw [c41b0]) | skip)
       replace H := Option.bind_eq_some_iff.mp H
       obtain ⟨t492, A420, H⟩ := H
       replace H : (laws_FnExactNearTo.j0 k a1 t473 t481 (!t492) a0_0 l0_1) = some r := H
       have A42 := Aside0.mk A420
       clear A420
       have H' := Aside0.mk H
       clear H
       go_wp2_with (first | (go_at_call 23; (with_reducible refine (laws_eqIntS.calls k _ _ t481 _ _ t473 t492 _ ?side1 ?side2 ?side3 ?side4 A42.out).mono ?_); (case side1 => exact nc_ (rR6 HO483.out).2.2); (case side2 => exact (rR6 HO483.out).2.1); (case side3 => exact nc_ (rR6 HO475.out).2.2); (case side4 => exact (rR6 HO475.out).2.1); rintro e w' ⟨rfl, ⟨nd, rfl⟩⟩))
       go_meet
       case rel => exact ⟨_, (!t492), ns_, H', ⟨by first | omega | exact Nat.le_refl _⟩, ⟨by (with_reducible repeat (first | apply rA6 | apply rN6 | apply rD6)); exact HO475.out⟩, ⟨by (with_reducible repeat (first | apply rA6 | apply rN6 | apply rD6)); exact HO483.out⟩, ⟨by (with_reducible repeat (first | apply rA6 | apply rN6 | apply rD6)); exact Kd.R_mono HO479.out (fun _ hk => trivial)⟩, ⟨by (with_reducible repeat (first | refine blk_drewN ?_ _ | refine blk_drew ?_ | refine blk_alloc ?_ _)); exact BK467.out⟩, ⟨by (with_reducible repeat (first | refine blk_drewN ?_ _ | refine blk_drew ?_ | refine blk_alloc ?_ _)); exact BK480.out⟩, ⟨by repeat (first | (with_reducible first | exact HB.out | apply below_alloc | apply eN6 | apply below_drew1 | refine bS6 ?_ GE467.out | refine bS6 ?_ GE480.out) | exact HB.out)⟩⟩
     case rest =>
      clear HC18
      try clear c1
      try clear c2
      try clear p2
      try clear c4
      try clear c4b0
      try clear c6
      try clear c13
      try clear c16
      try clear c18
      try clear c19
      try clear c21
      try clear c22
      try clear c23
      try clear c24
      try clear c25
      try clear c29
      try clear c41
      try clear c41b0
      try clear hcz20_0
      try clear hcz20_1
      try clear hcz22_0
      try clear hcz22_1
      try clear hcz26_0
      try clear hcz26_1
      try clear hcz30_0
      try clear hcz30_1
      try clear hcz39_0
      try clear hcz39_1
      try clear hcz6_0
      try clear hcz6_1
      try clear hfz20_0
      try clear hfz20_1
      try clear hfz22_0
      try clear hfz22_1
      try clear hfz26_0
      try clear hfz26_1
      try clear hfz30_0
      try clear hfz30_1
      try clear hfz39_0
      try clear hfz39_1
      try clear hfz6_0
      try clear hfz6_1
      obtain ⟨kq, x46_17, rfl, HA, HJ17, HO_6, HO_8, HO_481001, BK467, BK480, HB⟩ := hcut
      have hl481001_17 := (rR6 HO_481001.out).1
      rw [hl481001_17] at HO_481001
      (try simp only [hl481001_17])
      (try simp only [hl481001_17] at BK467)
      (try simp only [hl481001_17] at BK480)
      (try simp only [hl481001_17] at HO_6)
      (try simp only [hl481001_17] at HO_8)
      cases kq with
      | zero => exact absurd HA.out (by simp [laws_FnExactNearTo.j0])
      | succ kj17 =>
       have H := HA.out
       clear HA
       simp only [laws_FnExactNearTo.j0] at H
       by_cases c43 : x46_17 = true
       ·subst c43
        have H1 : (some false) = some r := by rw [if_pos rfl] at H; exact H
        clear H
        have H := H1
        clear H1
        obtain rfl := Option.some.inj H
        go_wp2
        go_ret
        exact ⟨by first | rfl | (simp [errW_none, errW_some] <;> rfl) | (simp [*, errW_none, errW_some] <;> rfl), by repeat (first | (with_reducible first | exact HB.out | apply below_alloc | apply eN6 | apply below_drew1 | refine bS6 ?_ GE467.out | refine bS6 ?_ GE480.out) | exact HB.out)⟩
       ·replace c43 := Bool.eq_false_iff.mpr c43
        subst c43
        have H1 : ((laws_markIntS.f kj17 t481 1).bind fun bt493 => ((laws_heldIntS.f kj17 bt493.2 1).bind fun t495 => (if t495 < 0 then (some false) else (if t495 = bt493.1 then ((laws_toNet.f kj17 a0_0 l0_1).bind fun bt496 => ((impl_NearTo.f kj17 bt496.1 bt496.2 a1).bind fun t500 => ((laws_eqIntS.f kj17 t500 t473).bind fun t503 => (if t503 = true then ((laws_heldIntS.f kj17 bt493.2 1).bind fun t504 => (if t504 < 0 then (some false) else (if t504 = bt493.1 then (some true) else (some false)))) else (some false))))) else (some false))))) = some r := by rw [if_neg (show ¬ (false = true) by decide)] at H; exact H
        clear H
        have H := H1
        clear H1
        replace H := Option.bind_eq_some_iff.mp H
        obtain ⟨⟨t493, t494⟩, A440, H⟩ := H
        replace H : ((laws_heldIntS.f kj17 t494 1).bind fun t495 => (if t495 < 0 then (some false) else (if t495 = t493 then ((laws_toNet.f kj17 a0_0 l0_1).bind fun bt496 => ((impl_NearTo.f kj17 bt496.1 bt496.2 a1).bind fun t500 => ((laws_eqIntS.f kj17 t500 t473).bind fun t503 => (if t503 = true then ((laws_heldIntS.f kj17 t494 1).bind fun t504 => (if t504 < 0 then (some false) else (if t504 = t493 then (some true) else (some false)))) else (some false))))) else (some false)))) = some r := H
        have A44 := Aside0.mk A440
        clear A440
        replace H := Option.bind_eq_some_iff.mp H
        obtain ⟨t495, A450, H⟩ := H
        replace H : (if t495 < 0 then (some false) else (if t495 = t493 then ((laws_toNet.f kj17 a0_0 l0_1).bind fun bt496 => ((impl_NearTo.f kj17 bt496.1 bt496.2 a1).bind fun t500 => ((laws_eqIntS.f kj17 t500 t473).bind fun t503 => (if t503 = true then ((laws_heldIntS.f kj17 t494 1).bind fun t504 => (if t504 < 0 then (some false) else (if t504 = t493 then (some true) else (some false)))) else (some false))))) else (some false))) = some r := H
        have A45 := Aside0.mk A450
        clear A450
        by_cases c46 : t495 < 0
        ·rw [if_pos c46] at H
         have c46b0 : decide (t495 < 0) = true := decide_eq_true c46
         clear c46
         obtain rfl := Option.some.inj H
         go_wp2_with (first | ((with_reducible refine gate_callee (f := 26) rfl ?_); refine goesL_ (some 49) rfl rfl Try.func26 (by kernel_rfl) rfl #[.slice Ao33 t481.length co33, .int .i64 1] rfl na_ ?_; (with_reducible refine (laws_markIntS.calls kj17 (fun k_ => some k_ = (.slice Ao33 t481.length co33 : Value).ownBlock) (.slice Ao33 t481.length co33) t481 1 t493 t494 w _ ?side1 ?side2 A44.out).mono ?_); (case side1 => repeat (first | (with_reducible first | exact HB.out | apply below_alloc | apply eN6 | apply below_drew1 | refine bS6 ?_ GE467.out | refine bS6 ?_ GE480.out) | exact HB.out)); (case side2 => exact Kd.R_tight rfl HO_8.out); rintro e w47 ⟨rfl, hy0, hb, hkp⟩; refine ⟨_, rfl, ?_⟩; have n0_ := Aside0.mk (Kd.R_mono (ok' := fun k_ => some k_ ≠ (.slice Ao33 t481.length co33 : Value).ownBlock) (Kd.R_keptB (HO_6.out) hkp (fun k_ hk_ hs_ => (hk_) hs_)) (fun k_ hk_ => hk_.1)); have n1_ := Aside0.mk (Kd.R_reok rfl hy0 (fun k_ e_ => HO_8.out.1 k_ e_)); have n2_ := Aside0.mk (Kd.R_mono (ok' := fun k_ => True) (Kd.R_keptB ((Kd.R_apart' HO_481001.out (Kd.R_typed HO_8.out) (by decide))) hkp (fun k_ hk_ hs_ => (hk_.2) hs_)) (fun k_ hk_ => trivial)); have n3_ := Aside0.mk (blk_kept (g := gb467) (o := .cells #[.int .i64 a0_0, .slice A0_1 l0_1.length c0_1] 39 (0, 0)) (nb_ BK467.out) hkp (fun hs_ => (fun e_ => (Kd.R_ne HO_8.out BK467.out (by decide)) e_) hs_)); have n4_ := Aside0.mk (blk_kept (g := gb480) (o := .cells #[.int .i64 t476, .slice Ao31 t491.length co31] 25 (0, 0)) (nb_ BK480.out) hkp (fun hs_ => (fun e_ => (Kd.R_ne HO_8.out BK480.out (by decide)) e_) hs_)); have n5_ := Aside0.mk (hb); clear HO_6; clear HO_8; clear HO_481001; clear BK467; clear BK480; clear HB; have HO_6 := n0_; have HO_8 := n1_; have HO_481001 := n2_; have BK467 := n3_; have BK480 := n4_; have HB := n5_; clear n0_ n1_ n2_ n3_ n4_ n5_; (try clear hb); (try clear hkp); (try clear hy0)) | ((with_reducible refine gate_callee (f := 27) rfl ?_); refine goesL_ (some 52) rfl rfl Try.func27 (by kernel_rfl) rfl #[.slice Ao33 t494.length co33, .int .i64 1] rfl (by (try simp only [List.map_toArray, List.map_cons, List.map_nil]); first | done | (rw [show t494.length = t481.length from (rR6 HO_8.out).1.symm] <;> rfl) | rfl | (simp only [List.length_drop, List.length_take]; rfl)) ?_; (with_reducible refine (laws_heldIntS.calls kj17 _ _ t494 1 t495 _ ?side1 ?side2 A45.out).mono ?_); (case side1 => exact nc_ (rR6 HO_8.out).2.2); (case side2 => rw [show t494.length = t481.length from (rR6 HO_8.out).1.symm]; exact (rR6 HO_8.out).2.1); rintro e w' ⟨rfl, ⟨nd, rfl⟩⟩; refine ⟨_, rfl, ?_⟩))
         go_ret
         exact ⟨by first | rfl | (simp [errW_none, errW_some] <;> rfl) | (simp [*, errW_none, errW_some] <;> rfl), by repeat (first | (with_reducible first | exact HB.out | apply below_alloc | apply eN6 | apply below_drew1 | refine bS6 ?_ GE467.out | refine bS6 ?_ GE480.out) | exact HB.out)⟩
        ·rw [if_neg c46] at H
         have c46b0 : decide (t495 < 0) = false := decide_eq_false c46
         clear c46
         by_cases c48 : t495 = t493
         ·rw [if_pos c48] at H
          have c48b0 : (t495 == t493) = true := beq_iff_eq.mpr c48
          have c48b1 : (t495 != t493) = false := bne_eq_false_iff_eq.mpr c48
          clear c48
          replace H := Option.bind_eq_some_iff.mp H
          obtain ⟨⟨t496, t497⟩, A490, H⟩ := H
          replace H : ((impl_NearTo.f kj17 t496 t497 a1).bind fun t500 => ((laws_eqIntS.f kj17 t500 t473).bind fun t503 => (if t503 = true then ((laws_heldIntS.f kj17 t494 1).bind fun t504 => (if t504 < 0 then (some false) else (if t504 = t493 then (some true) else (some false)))) else (some false)))) = some r := H
          have A49 := Aside0.mk A490
          clear A490
          replace H := Option.bind_eq_some_iff.mp H
          obtain ⟨t500, A500, H⟩ := H
          replace H : ((laws_eqIntS.f kj17 t500 t473).bind fun t503 => (if t503 = true then ((laws_heldIntS.f kj17 t494 1).bind fun t504 => (if t504 < 0 then (some false) else (if t504 = t493 then (some true) else (some false)))) else (some false))) = some r := H
          have A50 := Aside0.mk A500
          clear A500
          replace H := Option.bind_eq_some_iff.mp H
          obtain ⟨t503, A510, H⟩ := H
          replace H : (if t503 = true then ((laws_heldIntS.f kj17 t494 1).bind fun t504 => (if t504 < 0 then (some false) else (if t504 = t493 then (some true) else (some false)))) else (some false)) = some r := H
          have A51 := Aside0.mk A510
          clear A510
          by_cases c52 : t503 = true
          ·subst c52
           have H1 : ((laws_heldIntS.f kj17 t494 1).bind fun t504 => (if t504 < 0 then (some false) else (if t504 = t493 then (some true) else (some false)))) = some r := by rw [if_pos rfl] at H; exact H
           clear H
           have H := H1
           clear H1
           replace H := Option.bind_eq_some_iff.mp H
           obtain ⟨t504, A530, H⟩ := H
           replace H : (if t504 < 0 then (some false) else (if t504 = t493 then (some true) else (some false))) = some r := H
           have A53 := Aside0.mk A530
           clear A530
           by_cases c54 : t504 < 0
           ·rw [if_pos c54] at H
            have c54b0 : decide (t504 < 0) = true := decide_eq_true c54
            clear c54
            obtain rfl := Option.some.inj H
            go_wp2_with (first | ((with_reducible refine gate_callee (f := 26) rfl ?_); refine goesL_ (some 49) rfl rfl Try.func26 (by kernel_rfl) rfl #[.slice Ao33 t481.length co33, .int .i64 1] rfl na_ ?_; (with_reducible refine (laws_markIntS.calls kj17 (fun k_ => some k_ = (.slice Ao33 t481.length co33 : Value).ownBlock) (.slice Ao33 t481.length co33) t481 1 t493 t494 w _ ?side1 ?side2 A44.out).mono ?_); (case side1 => repeat (first | (with_reducible first | exact HB.out | apply below_alloc | apply eN6 | apply below_drew1 | refine bS6 ?_ GE467.out | refine bS6 ?_ GE480.out) | exact HB.out)); (case side2 => exact Kd.R_tight rfl HO_8.out); rintro e w55 ⟨rfl, hy0, hb, hkp⟩; refine ⟨_, rfl, ?_⟩; have n0_ := Aside0.mk (Kd.R_mono (ok' := fun k_ => some k_ ≠ (.slice Ao33 t481.length co33 : Value).ownBlock) (Kd.R_keptB (HO_6.out) hkp (fun k_ hk_ hs_ => (hk_) hs_)) (fun k_ hk_ => hk_.1)); have n1_ := Aside0.mk (Kd.R_reok rfl hy0 (fun k_ e_ => HO_8.out.1 k_ e_)); have n2_ := Aside0.mk (Kd.R_mono (ok' := fun k_ => True) (Kd.R_keptB ((Kd.R_apart' HO_481001.out (Kd.R_typed HO_8.out) (by decide))) hkp (fun k_ hk_ hs_ => (hk_.2) hs_)) (fun k_ hk_ => trivial)); have n3_ := Aside0.mk (blk_kept (g := gb467) (o := .cells #[.int .i64 a0_0, .slice A0_1 l0_1.length c0_1] 39 (0, 0)) (nb_ BK467.out) hkp (fun hs_ => (fun e_ => (Kd.R_ne HO_8.out BK467.out (by decide)) e_) hs_)); have n4_ := Aside0.mk (blk_kept (g := gb480) (o := .cells #[.int .i64 t476, .slice Ao31 t491.length co31] 25 (0, 0)) (nb_ BK480.out) hkp (fun hs_ => (fun e_ => (Kd.R_ne HO_8.out BK480.out (by decide)) e_) hs_)); have n5_ := Aside0.mk (hb); clear HO_6; clear HO_8; clear HO_481001; clear BK467; clear BK480; clear HB; have HO_6 := n0_; have HO_8 := n1_; have HO_481001 := n2_; have BK467 := n3_; have BK480 := n4_; have HB := n5_; clear n0_ n1_ n2_ n3_ n4_ n5_; (try clear hb); (try clear hkp); (try clear hy0)) | ((with_reducible refine gate_callee (f := 27) rfl ?_); refine goesL_ (some 52) rfl rfl Try.func27 (by kernel_rfl) rfl #[.slice Ao33 t494.length co33, .int .i64 1] rfl (by (try simp only [List.map_toArray, List.map_cons, List.map_nil]); first | done | (rw [show t494.length = t481.length from (rR6 HO_8.out).1.symm] <;> rfl) | rfl | (simp only [List.length_drop, List.length_take]; rfl)) ?_; (with_reducible refine (laws_heldIntS.calls kj17 _ _ t494 1 t495 _ ?side1 ?side2 A45.out).mono ?_); (case side1 => exact nc_ (rR6 HO_8.out).2.2); (case side2 => rw [show t494.length = t481.length from (rR6 HO_8.out).1.symm]; exact (rR6 HO_8.out).2.1); rintro e w' ⟨rfl, ⟨nd, rfl⟩⟩; refine ⟨_, rfl, ?_⟩; have hnb56 := NB467_480.out; have hnc56 := NB480_467.out; have hcz57_0 : w55.cell? ⟨gb467, 0, none⟩ = some (.int .i64 a0_0) := (bC6 BK467.out 0).trans rfl; have hcz57_1 : w55.cell? ⟨gb467, 1, none⟩ = some (.slice A0_1 l0_1.length c0_1) := (bC6 BK467.out 1).trans rfl; have hfz57_0 := blk_frozen BK467.out 0; have hfz57_1 := blk_frozen BK467.out 1) | ((with_reducible refine gate_callee (f := 22) rfl ?_); refine goesL_ (some 59) rfl rfl Try.func22 (by kernel_rfl) rfl #[.agg #[.int .i64 a0_0, .slice A0_1 l0_1.length c0_1]] rfl na_ ?_; (with_reducible refine (laws_toNet.calls kj17 a0_0 _ _ l0_1 t496 t497 _ ?side1 ?side2 A49.out).mono ?_); (case side1 => exact nc_ (Kd.C_below HR0_1.out (ne_ HB.out))); (case side2 => exact HC0_1.out); rintro e w58 ⟨v498, rfl, ho0, hb⟩; refine ⟨_, rfl, ?_⟩; have n0_ := Aside0.mk (rB6 (nr_ HO_6.out) hb); have n1_ := Aside0.mk (rB6 (nr_ HO_8.out) hb); have n2_ := Aside0.mk (Kd.R_elder' (nr_ HO_481001.out) (Kd.R_base ho0) hb); have n3_ := Aside0.mk (Kd.R_lower (Kd.R_new' ho0 (Kd.R_lt (nr_ HO_481001.out))) (eZ6 (ne_ HB.out))); have n4_ := Aside0.mk (bB6 (g := gb467) (o := .cells #[.int .i64 a0_0, .slice A0_1 l0_1.length c0_1] 39 (0, 0)) (nb_ BK467.out) hb); have n5_ := Aside0.mk (bB6 (g := gb480) (o := .cells #[.int .i64 t476, .slice Ao31 t491.length co31] 25 (0, 0)) (nb_ BK480.out) hb); have n6_ := Aside0.mk (eS6 (ne_ HB.out) hb); clear HO_6; clear HO_8; clear HO_481001; clear BK467; clear BK480; clear HB; have HO_6 := n0_; have HO_8 := n1_; have HO_481001 := n2_; have HO499 := n3_; have BK467 := n4_; have BK480 := n5_; have HB := n6_; clear n0_ n1_ n2_ n3_ n4_ n5_ n6_; (try clear hb); (try clear hb2); (try clear hk); (try clear hi); (try clear ho0); obtain ⟨Ao59, co59, eo59⟩ := Kd.R_slice HO499.out; subst eo59) | ((with_reducible refine gate_callee (f := 18) rfl ?_); refine goesL_ (some 61) rfl rfl Try.func18 (by kernel_rfl) rfl #[.agg #[.int .i64 t496, .slice Ao59 t497.length co59], .int .i64 a1] rfl na_ ?_; (with_reducible refine (impl_NearTo.calls kj17 t496 _ _ t497 a1 t500 _ ?side1 ?side2 A50.out).mono ?_); (case side1 => exact nc_ (rR6 HO499.out).2.2); (case side2 => exact (rR6 HO499.out).2.1); rintro e w60 ⟨v501, rfl, ho0, hb⟩; refine ⟨_, rfl, ?_⟩; have n0_ := Aside0.mk (Kd.R_elder' (nr_ HO_6.out) (Kd.R_base ho0) hb); have n1_ := Aside0.mk (Kd.R_elder' (nr_ HO_8.out) (Kd.R_base ho0) hb); have n2_ := Aside0.mk (rB6 (nr_ HO_481001.out) hb); have n3_ := Aside0.mk (rB6 (nr_ HO499.out) hb); have n4_ := Aside0.mk (Kd.R_lower (Kd.R_new' (Kd.R_new' ho0 (Kd.R_lt (nr_ HO_6.out))) (Kd.R_lt (nr_ HO_8.out))) (eZ6 (ne_ HB.out))); have n5_ := Aside0.mk (bB6 (g := gb467) (o := .cells #[.int .i64 a0_0, .slice A0_1 l0_1.length c0_1] 39 (0, 0)) (nb_ BK467.out) hb); have n6_ := Aside0.mk (bB6 (g := gb480) (o := .cells #[.int .i64 t476, .slice Ao31 t491.length co31] 25 (0, 0)) (nb_ BK480.out) hb); have n7_ := Aside0.mk (eS6 (ne_ HB.out) hb); clear HO_6; clear HO_8; clear HO_481001; clear HO499; clear BK467; clear BK480; clear HB; have HO_6 := n0_; have HO_8 := n1_; have HO_481001 := n2_; have HO499 := n3_; have HO502 := n4_; have BK467 := n5_; have BK480 := n6_; have HB := n7_; clear n0_ n1_ n2_ n3_ n4_ n5_ n6_ n7_; (try clear hb); (try clear hb2); (try clear hk); (try clear hi); (try clear ho0); obtain ⟨Ao61, co61, eo61⟩ := Kd.R_slice HO502.out; subst eo61) | ((with_reducible refine gate_callee (f := 23) rfl ?_); refine goesL_ (some 64) rfl rfl Try.func23 (by kernel_rfl) rfl #[.slice Ao61 t500.length co61, .slice Ao34 t473.length co34] rfl na_ ?_; (with_reducible refine (laws_eqIntS.calls kj17 _ _ t500 _ _ t473 true _ ?side1 ?side2 ?side3 ?side4 A51.out).mono ?_); (case side1 => exact nc_ (rR6 HO502.out).2.2); (case side2 => exact (rR6 HO502.out).2.1); (case side3 => exact nc_ (rR6 HO_6.out).2.2); (case side4 => exact (rR6 HO_6.out).2.1); rintro e w' ⟨rfl, ⟨nd, rfl⟩⟩; refine ⟨_, rfl, ?_⟩) | ((with_reducible refine gate_callee (f := 27) rfl ?_); refine goesL_ (some 68) rfl rfl Try.func27 (by kernel_rfl) rfl #[.slice Ao33 t494.length co33, .int .i64 1] rfl (by (try simp only [List.map_toArray, List.map_cons, List.map_nil]); first | done | (rw [show t494.length = t481.length from (rR6 HO_8.out).1.symm] <;> rfl) | rfl | (simp only [List.length_drop, List.length_take]; rfl)) ?_; (with_reducible refine (laws_heldIntS.calls kj17 _ _ t494 1 t504 _ ?side1 ?side2 A53.out).mono ?_); (case side1 => exact nc_ (rR6 HO_8.out).2.2); (case side2 => rw [show t494.length = t481.length from (rR6 HO_8.out).1.symm]; exact (rR6 HO_8.out).2.1); rintro e w' ⟨rfl, ⟨nd, rfl⟩⟩; refine ⟨_, rfl, ?_⟩))
            go_ret
            exact ⟨by first | rfl | (simp [errW_none, errW_some] <;> rfl) | (simp [*, errW_none, errW_some] <;> rfl), by repeat (first | (with_reducible first | exact HB.out | apply below_alloc | apply eN6 | apply below_drew1 | refine bS6 ?_ GE467.out | refine bS6 ?_ GE480.out) | exact HB.out)⟩
           ·rw [if_neg c54] at H
            have c54b0 : decide (t504 < 0) = false := decide_eq_false c54
            clear c54
            by_cases c62 : t504 = t493
            ·rw [if_pos c62] at H
             have c62b0 : (t504 == t493) = true := beq_iff_eq.mpr c62
             have c62b1 : (t504 != t493) = false := bne_eq_false_iff_eq.mpr c62
             clear c62
             obtain rfl := Option.some.inj H
             go_wp2_with (first | ((with_reducible refine gate_callee (f := 26) rfl ?_); refine goesL_ (some 49) rfl rfl Try.func26 (by kernel_rfl) rfl #[.slice Ao33 t481.length co33, .int .i64 1] rfl na_ ?_; (with_reducible refine (laws_markIntS.calls kj17 (fun k_ => some k_ = (.slice Ao33 t481.length co33 : Value).ownBlock) (.slice Ao33 t481.length co33) t481 1 t493 t494 w _ ?side1 ?side2 A44.out).mono ?_); (case side1 => repeat (first | (with_reducible first | exact HB.out | apply below_alloc | apply eN6 | apply below_drew1 | refine bS6 ?_ GE467.out | refine bS6 ?_ GE480.out) | exact HB.out)); (case side2 => exact Kd.R_tight rfl HO_8.out); rintro e w63 ⟨rfl, hy0, hb, hkp⟩; refine ⟨_, rfl, ?_⟩; have n0_ := Aside0.mk (Kd.R_mono (ok' := fun k_ => some k_ ≠ (.slice Ao33 t481.length co33 : Value).ownBlock) (Kd.R_keptB (HO_6.out) hkp (fun k_ hk_ hs_ => (hk_) hs_)) (fun k_ hk_ => hk_.1)); have n1_ := Aside0.mk (Kd.R_reok rfl hy0 (fun k_ e_ => HO_8.out.1 k_ e_)); have n2_ := Aside0.mk (Kd.R_mono (ok' := fun k_ => True) (Kd.R_keptB ((Kd.R_apart' HO_481001.out (Kd.R_typed HO_8.out) (by decide))) hkp (fun k_ hk_ hs_ => (hk_.2) hs_)) (fun k_ hk_ => trivial)); have n3_ := Aside0.mk (blk_kept (g := gb467) (o := .cells #[.int .i64 a0_0, .slice A0_1 l0_1.length c0_1] 39 (0, 0)) (nb_ BK467.out) hkp (fun hs_ => (fun e_ => (Kd.R_ne HO_8.out BK467.out (by decide)) e_) hs_)); have n4_ := Aside0.mk (blk_kept (g := gb480) (o := .cells #[.int .i64 t476, .slice Ao31 t491.length co31] 25 (0, 0)) (nb_ BK480.out) hkp (fun hs_ => (fun e_ => (Kd.R_ne HO_8.out BK480.out (by decide)) e_) hs_)); have n5_ := Aside0.mk (hb); clear HO_6; clear HO_8; clear HO_481001; clear BK467; clear BK480; clear HB; have HO_6 := n0_; have HO_8 := n1_; have HO_481001 := n2_; have BK467 := n3_; have BK480 := n4_; have HB := n5_; clear n0_ n1_ n2_ n3_ n4_ n5_; (try clear hb); (try clear hkp); (try clear hy0)) | ((with_reducible refine gate_callee (f := 27) rfl ?_); refine goesL_ (some 52) rfl rfl Try.func27 (by kernel_rfl) rfl #[.slice Ao33 t494.length co33, .int .i64 1] rfl (by (try simp only [List.map_toArray, List.map_cons, List.map_nil]); first | done | (rw [show t494.length = t481.length from (rR6 HO_8.out).1.symm] <;> rfl) | rfl | (simp only [List.length_drop, List.length_take]; rfl)) ?_; (with_reducible refine (laws_heldIntS.calls kj17 _ _ t494 1 t495 _ ?side1 ?side2 A45.out).mono ?_); (case side1 => exact nc_ (rR6 HO_8.out).2.2); (case side2 => rw [show t494.length = t481.length from (rR6 HO_8.out).1.symm]; exact (rR6 HO_8.out).2.1); rintro e w' ⟨rfl, ⟨nd, rfl⟩⟩; refine ⟨_, rfl, ?_⟩; have hnb64 := NB467_480.out; have hnc64 := NB480_467.out; have hcz65_0 : w63.cell? ⟨gb467, 0, none⟩ = some (.int .i64 a0_0) := (bC6 BK467.out 0).trans rfl; have hcz65_1 : w63.cell? ⟨gb467, 1, none⟩ = some (.slice A0_1 l0_1.length c0_1) := (bC6 BK467.out 1).trans rfl; have hfz65_0 := blk_frozen BK467.out 0; have hfz65_1 := blk_frozen BK467.out 1) | ((with_reducible refine gate_callee (f := 22) rfl ?_); refine goesL_ (some 59) rfl rfl Try.func22 (by kernel_rfl) rfl #[.agg #[.int .i64 a0_0, .slice A0_1 l0_1.length c0_1]] rfl na_ ?_; (with_reducible refine (laws_toNet.calls kj17 a0_0 _ _ l0_1 t496 t497 _ ?side1 ?side2 A49.out).mono ?_); (case side1 => exact nc_ (Kd.C_below HR0_1.out (ne_ HB.out))); (case side2 => exact HC0_1.out); rintro e w66 ⟨v498, rfl, ho0, hb⟩; refine ⟨_, rfl, ?_⟩; have n0_ := Aside0.mk (rB6 (nr_ HO_6.out) hb); have n1_ := Aside0.mk (rB6 (nr_ HO_8.out) hb); have n2_ := Aside0.mk (Kd.R_elder' (nr_ HO_481001.out) (Kd.R_base ho0) hb); have n3_ := Aside0.mk (Kd.R_lower (Kd.R_new' ho0 (Kd.R_lt (nr_ HO_481001.out))) (eZ6 (ne_ HB.out))); have n4_ := Aside0.mk (bB6 (g := gb467) (o := .cells #[.int .i64 a0_0, .slice A0_1 l0_1.length c0_1] 39 (0, 0)) (nb_ BK467.out) hb); have n5_ := Aside0.mk (bB6 (g := gb480) (o := .cells #[.int .i64 t476, .slice Ao31 t491.length co31] 25 (0, 0)) (nb_ BK480.out) hb); have n6_ := Aside0.mk (eS6 (ne_ HB.out) hb); clear HO_6; clear HO_8; clear HO_481001; clear BK467; clear BK480; clear HB; have HO_6 := n0_; have HO_8 := n1_; have HO_481001 := n2_; have HO499 := n3_; have BK467 := n4_; have BK480 := n5_; have HB := n6_; clear n0_ n1_ n2_ n3_ n4_ n5_ n6_; (try clear hb); (try clear hb2); (try clear hk); (try clear hi); (try clear ho0); obtain ⟨Ao67, co67, eo67⟩ := Kd.R_slice HO499.out; subst eo67) | ((with_reducible refine gate_callee (f := 18) rfl ?_); refine goesL_ (some 61) rfl rfl Try.func18 (by kernel_rfl) rfl #[.agg #[.int .i64 t496, .slice Ao67 t497.length co67], .int .i64 a1] rfl na_ ?_; (with_reducible refine (impl_NearTo.calls kj17 t496 _ _ t497 a1 t500 _ ?side1 ?side2 A50.out).mono ?_); (case side1 => exact nc_ (rR6 HO499.out).2.2); (case side2 => exact (rR6 HO499.out).2.1); rintro e w68 ⟨v501, rfl, ho0, hb⟩; refine ⟨_, rfl, ?_⟩; have n0_ := Aside0.mk (Kd.R_elder' (nr_ HO_6.out) (Kd.R_base ho0) hb); have n1_ := Aside0.mk (Kd.R_elder' (nr_ HO_8.out) (Kd.R_base ho0) hb); have n2_ := Aside0.mk (rB6 (nr_ HO_481001.out) hb); have n3_ := Aside0.mk (rB6 (nr_ HO499.out) hb); have n4_ := Aside0.mk (Kd.R_lower (Kd.R_new' (Kd.R_new' ho0 (Kd.R_lt (nr_ HO_6.out))) (Kd.R_lt (nr_ HO_8.out))) (eZ6 (ne_ HB.out))); have n5_ := Aside0.mk (bB6 (g := gb467) (o := .cells #[.int .i64 a0_0, .slice A0_1 l0_1.length c0_1] 39 (0, 0)) (nb_ BK467.out) hb); have n6_ := Aside0.mk (bB6 (g := gb480) (o := .cells #[.int .i64 t476, .slice Ao31 t491.length co31] 25 (0, 0)) (nb_ BK480.out) hb); have n7_ := Aside0.mk (eS6 (ne_ HB.out) hb); clear HO_6; clear HO_8; clear HO_481001; clear HO499; clear BK467; clear BK480; clear HB; have HO_6 := n0_; have HO_8 := n1_; have HO_481001 := n2_; have HO499 := n3_; have HO502 := n4_; have BK467 := n5_; have BK480 := n6_; have HB := n7_; clear n0_ n1_ n2_ n3_ n4_ n5_ n6_ n7_; (try clear hb); (try clear hb2); (try clear hk); (try clear hi); (try clear ho0); obtain ⟨Ao69, co69, eo69⟩ := Kd.R_slice HO502.out; subst eo69) | ((with_reducible refine gate_callee (f := 23) rfl ?_); refine goesL_ (some 64) rfl rfl Try.func23 (by kernel_rfl) rfl #[.slice Ao69 t500.length co69, .slice Ao34 t473.length co34] rfl na_ ?_; (with_reducible refine (laws_eqIntS.calls kj17 _ _ t500 _ _ t473 true _ ?side1 ?side2 ?side3 ?side4 A51.out).mono ?_); (case side1 => exact nc_ (rR6 HO502.out).2.2); (case side2 => exact (rR6 HO502.out).2.1); (case side3 => exact nc_ (rR6 HO_6.out).2.2); (case side4 => exact (rR6 HO_6.out).2.1); rintro e w' ⟨rfl, ⟨nd, rfl⟩⟩; refine ⟨_, rfl, ?_⟩) | ((with_reducible refine gate_callee (f := 27) rfl ?_); refine goesL_ (some 68) rfl rfl Try.func27 (by kernel_rfl) rfl #[.slice Ao33 t494.length co33, .int .i64 1] rfl (by (try simp only [List.map_toArray, List.map_cons, List.map_nil]); first | done | (rw [show t494.length = t481.length from (rR6 HO_8.out).1.symm] <;> rfl) | rfl | (simp only [List.length_drop, List.length_take]; rfl)) ?_; (with_reducible refine (laws_heldIntS.calls kj17 _ _ t494 1 t504 _ ?side1 ?side2 A53.out).mono ?_); (case side1 => exact nc_ (rR6 HO_8.out).2.2); (case side2 => rw [show t494.length = t481.length from (rR6 HO_8.out).1.symm]; exact (rR6 HO_8.out).2.1); rintro e w' ⟨rfl, ⟨nd, rfl⟩⟩; refine ⟨_, rfl, ?_⟩))
             go_ret
             exact ⟨by first | rfl | (simp [errW_none, errW_some] <;> rfl) | (simp [*, errW_none, errW_some] <;> rfl), by repeat (first | (with_reducible first | exact HB.out | apply below_alloc | apply eN6 | apply below_drew1 | refine bS6 ?_ GE467.out | refine bS6 ?_ GE480.out) | exact HB.out)⟩
            ·rw [if_neg c62] at H
             have c62b0 : (t504 == t493) = false := beq_eq_false_iff_ne.mpr c62
             have c62b1 : (t504 != t493) = true := bne_iff_ne.mpr c62
             obtain rfl := Option.some.inj H
             go_wp2_with (first | ((with_reducible refine gate_callee (f := 26) rfl ?_); refine goesL_ (some 49) rfl rfl Try.func26 (by kernel_rfl) rfl #[.slice Ao33 t481.length co33, .int .i64 1] rfl na_ ?_; (with_reducible refine (laws_markIntS.calls kj17 (fun k_ => some k_ = (.slice Ao33 t481.length co33 : Value).ownBlock) (.slice Ao33 t481.length co33) t481 1 t493 t494 w _ ?side1 ?side2 A44.out).mono ?_); (case side1 => repeat (first | (with_reducible first | exact HB.out | apply below_alloc | apply eN6 | apply below_drew1 | refine bS6 ?_ GE467.out | refine bS6 ?_ GE480.out) | exact HB.out)); (case side2 => exact Kd.R_tight rfl HO_8.out); rintro e w70 ⟨rfl, hy0, hb, hkp⟩; refine ⟨_, rfl, ?_⟩; have n0_ := Aside0.mk (Kd.R_mono (ok' := fun k_ => some k_ ≠ (.slice Ao33 t481.length co33 : Value).ownBlock) (Kd.R_keptB (HO_6.out) hkp (fun k_ hk_ hs_ => (hk_) hs_)) (fun k_ hk_ => hk_.1)); have n1_ := Aside0.mk (Kd.R_reok rfl hy0 (fun k_ e_ => HO_8.out.1 k_ e_)); have n2_ := Aside0.mk (Kd.R_mono (ok' := fun k_ => True) (Kd.R_keptB ((Kd.R_apart' HO_481001.out (Kd.R_typed HO_8.out) (by decide))) hkp (fun k_ hk_ hs_ => (hk_.2) hs_)) (fun k_ hk_ => trivial)); have n3_ := Aside0.mk (blk_kept (g := gb467) (o := .cells #[.int .i64 a0_0, .slice A0_1 l0_1.length c0_1] 39 (0, 0)) (nb_ BK467.out) hkp (fun hs_ => (fun e_ => (Kd.R_ne HO_8.out BK467.out (by decide)) e_) hs_)); have n4_ := Aside0.mk (blk_kept (g := gb480) (o := .cells #[.int .i64 t476, .slice Ao31 t491.length co31] 25 (0, 0)) (nb_ BK480.out) hkp (fun hs_ => (fun e_ => (Kd.R_ne HO_8.out BK480.out (by decide)) e_) hs_)); have n5_ := Aside0.mk (hb); clear HO_6; clear HO_8; clear HO_481001; clear BK467; clear BK480; clear HB; have HO_6 := n0_; have HO_8 := n1_; have HO_481001 := n2_; have BK467 := n3_; have BK480 := n4_; have HB := n5_; clear n0_ n1_ n2_ n3_ n4_ n5_; (try clear hb); (try clear hkp); (try clear hy0)) | ((with_reducible refine gate_callee (f := 27) rfl ?_); refine goesL_ (some 52) rfl rfl Try.func27 (by kernel_rfl) rfl #[.slice Ao33 t494.length co33, .int .i64 1] rfl (by (try simp only [List.map_toArray, List.map_cons, List.map_nil]); first | done | (rw [show t494.length = t481.length from (rR6 HO_8.out).1.symm] <;> rfl) | rfl | (simp only [List.length_drop, List.length_take]; rfl)) ?_; (with_reducible refine (laws_heldIntS.calls kj17 _ _ t494 1 t495 _ ?side1 ?side2 A45.out).mono ?_); (case side1 => exact nc_ (rR6 HO_8.out).2.2); (case side2 => rw [show t494.length = t481.length from (rR6 HO_8.out).1.symm]; exact (rR6 HO_8.out).2.1); rintro e w' ⟨rfl, ⟨nd, rfl⟩⟩; refine ⟨_, rfl, ?_⟩; have hnb71 := NB467_480.out; have hnc71 := NB480_467.out; have hcz72_0 : w70.cell? ⟨gb467, 0, none⟩ = some (.int .i64 a0_0) := (bC6 BK467.out 0).trans rfl; have hcz72_1 : w70.cell? ⟨gb467, 1, none⟩ = some (.slice A0_1 l0_1.length c0_1) := (bC6 BK467.out 1).trans rfl; have hfz72_0 := blk_frozen BK467.out 0; have hfz72_1 := blk_frozen BK467.out 1) | ((with_reducible refine gate_callee (f := 22) rfl ?_); refine goesL_ (some 59) rfl rfl Try.func22 (by kernel_rfl) rfl #[.agg #[.int .i64 a0_0, .slice A0_1 l0_1.length c0_1]] rfl na_ ?_; (with_reducible refine (laws_toNet.calls kj17 a0_0 _ _ l0_1 t496 t497 _ ?side1 ?side2 A49.out).mono ?_); (case side1 => exact nc_ (Kd.C_below HR0_1.out (ne_ HB.out))); (case side2 => exact HC0_1.out); rintro e w73 ⟨v498, rfl, ho0, hb⟩; refine ⟨_, rfl, ?_⟩; have n0_ := Aside0.mk (rB6 (nr_ HO_6.out) hb); have n1_ := Aside0.mk (rB6 (nr_ HO_8.out) hb); have n2_ := Aside0.mk (Kd.R_elder' (nr_ HO_481001.out) (Kd.R_base ho0) hb); have n3_ := Aside0.mk (Kd.R_lower (Kd.R_new' ho0 (Kd.R_lt (nr_ HO_481001.out))) (eZ6 (ne_ HB.out))); have n4_ := Aside0.mk (bB6 (g := gb467) (o := .cells #[.int .i64 a0_0, .slice A0_1 l0_1.length c0_1] 39 (0, 0)) (nb_ BK467.out) hb); have n5_ := Aside0.mk (bB6 (g := gb480) (o := .cells #[.int .i64 t476, .slice Ao31 t491.length co31] 25 (0, 0)) (nb_ BK480.out) hb); have n6_ := Aside0.mk (eS6 (ne_ HB.out) hb); clear HO_6; clear HO_8; clear HO_481001; clear BK467; clear BK480; clear HB; have HO_6 := n0_; have HO_8 := n1_; have HO_481001 := n2_; have HO499 := n3_; have BK467 := n4_; have BK480 := n5_; have HB := n6_; clear n0_ n1_ n2_ n3_ n4_ n5_ n6_; (try clear hb); (try clear hb2); (try clear hk); (try clear hi); (try clear ho0); obtain ⟨Ao74, co74, eo74⟩ := Kd.R_slice HO499.out; subst eo74) | ((with_reducible refine gate_callee (f := 18) rfl ?_); refine goesL_ (some 61) rfl rfl Try.func18 (by kernel_rfl) rfl #[.agg #[.int .i64 t496, .slice Ao74 t497.length co74], .int .i64 a1] rfl na_ ?_; (with_reducible refine (impl_NearTo.calls kj17 t496 _ _ t497 a1 t500 _ ?side1 ?side2 A50.out).mono ?_); (case side1 => exact nc_ (rR6 HO499.out).2.2); (case side2 => exact (rR6 HO499.out).2.1); rintro e w75 ⟨v501, rfl, ho0, hb⟩; refine ⟨_, rfl, ?_⟩; have n0_ := Aside0.mk (Kd.R_elder' (nr_ HO_6.out) (Kd.R_base ho0) hb); have n1_ := Aside0.mk (Kd.R_elder' (nr_ HO_8.out) (Kd.R_base ho0) hb); have n2_ := Aside0.mk (rB6 (nr_ HO_481001.out) hb); have n3_ := Aside0.mk (rB6 (nr_ HO499.out) hb); have n4_ := Aside0.mk (Kd.R_lower (Kd.R_new' (Kd.R_new' ho0 (Kd.R_lt (nr_ HO_6.out))) (Kd.R_lt (nr_ HO_8.out))) (eZ6 (ne_ HB.out))); have n5_ := Aside0.mk (bB6 (g := gb467) (o := .cells #[.int .i64 a0_0, .slice A0_1 l0_1.length c0_1] 39 (0, 0)) (nb_ BK467.out) hb); have n6_ := Aside0.mk (bB6 (g := gb480) (o := .cells #[.int .i64 t476, .slice Ao31 t491.length co31] 25 (0, 0)) (nb_ BK480.out) hb); have n7_ := Aside0.mk (eS6 (ne_ HB.out) hb); clear HO_6; clear HO_8; clear HO_481001; clear HO499; clear BK467; clear BK480; clear HB; have HO_6 := n0_; have HO_8 := n1_; have HO_481001 := n2_; have HO499 := n3_; have HO502 := n4_; have BK467 := n5_; have BK480 := n6_; have HB := n7_; clear n0_ n1_ n2_ n3_ n4_ n5_ n6_ n7_; (try clear hb); (try clear hb2); (try clear hk); (try clear hi); (try clear ho0); obtain ⟨Ao76, co76, eo76⟩ := Kd.R_slice HO502.out; subst eo76) | ((with_reducible refine gate_callee (f := 23) rfl ?_); refine goesL_ (some 64) rfl rfl Try.func23 (by kernel_rfl) rfl #[.slice Ao76 t500.length co76, .slice Ao34 t473.length co34] rfl na_ ?_; (with_reducible refine (laws_eqIntS.calls kj17 _ _ t500 _ _ t473 true _ ?side1 ?side2 ?side3 ?side4 A51.out).mono ?_); (case side1 => exact nc_ (rR6 HO502.out).2.2); (case side2 => exact (rR6 HO502.out).2.1); (case side3 => exact nc_ (rR6 HO_6.out).2.2); (case side4 => exact (rR6 HO_6.out).2.1); rintro e w' ⟨rfl, ⟨nd, rfl⟩⟩; refine ⟨_, rfl, ?_⟩) | ((with_reducible refine gate_callee (f := 27) rfl ?_); refine goesL_ (some 68) rfl rfl Try.func27 (by kernel_rfl) rfl #[.slice Ao33 t494.length co33, .int .i64 1] rfl (by (try simp only [List.map_toArray, List.map_cons, List.map_nil]); first | done | (rw [show t494.length = t481.length from (rR6 HO_8.out).1.symm] <;> rfl) | rfl | (simp only [List.length_drop, List.length_take]; rfl)) ?_; (with_reducible refine (laws_heldIntS.calls kj17 _ _ t494 1 t504 _ ?side1 ?side2 A53.out).mono ?_); (case side1 => exact nc_ (rR6 HO_8.out).2.2); (case side2 => rw [show t494.length = t481.length from (rR6 HO_8.out).1.symm]; exact (rR6 HO_8.out).2.1); rintro e w' ⟨rfl, ⟨nd, rfl⟩⟩; refine ⟨_, rfl, ?_⟩))
             go_ret
             exact ⟨by first | rfl | (simp [errW_none, errW_some] <;> rfl) | (simp [*, errW_none, errW_some] <;> rfl), by repeat (first | (with_reducible first | exact HB.out | apply below_alloc | apply eN6 | apply below_drew1 | refine bS6 ?_ GE467.out | refine bS6 ?_ GE480.out) | exact HB.out)⟩
          ·replace c52 := Bool.eq_false_iff.mpr c52
           subst c52
           have H1 : (some false) = some r := by rw [if_neg (show ¬ (false = true) by decide)] at H; exact H
           clear H
           have H := H1
           clear H1
           obtain rfl := Option.some.inj H
           go_wp2_with (first | ((with_reducible refine gate_callee (f := 26) rfl ?_); refine goesL_ (some 49) rfl rfl Try.func26 (by kernel_rfl) rfl #[.slice Ao33 t481.length co33, .int .i64 1] rfl na_ ?_; (with_reducible refine (laws_markIntS.calls kj17 (fun k_ => some k_ = (.slice Ao33 t481.length co33 : Value).ownBlock) (.slice Ao33 t481.length co33) t481 1 t493 t494 w _ ?side1 ?side2 A44.out).mono ?_); (case side1 => repeat (first | (with_reducible first | exact HB.out | apply below_alloc | apply eN6 | apply below_drew1 | refine bS6 ?_ GE467.out | refine bS6 ?_ GE480.out) | exact HB.out)); (case side2 => exact Kd.R_tight rfl HO_8.out); rintro e w77 ⟨rfl, hy0, hb, hkp⟩; refine ⟨_, rfl, ?_⟩; have n0_ := Aside0.mk (Kd.R_mono (ok' := fun k_ => some k_ ≠ (.slice Ao33 t481.length co33 : Value).ownBlock) (Kd.R_keptB (HO_6.out) hkp (fun k_ hk_ hs_ => (hk_) hs_)) (fun k_ hk_ => hk_.1)); have n1_ := Aside0.mk (Kd.R_reok rfl hy0 (fun k_ e_ => HO_8.out.1 k_ e_)); have n2_ := Aside0.mk (Kd.R_mono (ok' := fun k_ => True) (Kd.R_keptB ((Kd.R_apart' HO_481001.out (Kd.R_typed HO_8.out) (by decide))) hkp (fun k_ hk_ hs_ => (hk_.2) hs_)) (fun k_ hk_ => trivial)); have n3_ := Aside0.mk (blk_kept (g := gb467) (o := .cells #[.int .i64 a0_0, .slice A0_1 l0_1.length c0_1] 39 (0, 0)) (nb_ BK467.out) hkp (fun hs_ => (fun e_ => (Kd.R_ne HO_8.out BK467.out (by decide)) e_) hs_)); have n4_ := Aside0.mk (blk_kept (g := gb480) (o := .cells #[.int .i64 t476, .slice Ao31 t491.length co31] 25 (0, 0)) (nb_ BK480.out) hkp (fun hs_ => (fun e_ => (Kd.R_ne HO_8.out BK480.out (by decide)) e_) hs_)); have n5_ := Aside0.mk (hb); clear HO_6; clear HO_8; clear HO_481001; clear BK467; clear BK480; clear HB; have HO_6 := n0_; have HO_8 := n1_; have HO_481001 := n2_; have BK467 := n3_; have BK480 := n4_; have HB := n5_; clear n0_ n1_ n2_ n3_ n4_ n5_; (try clear hb); (try clear hkp); (try clear hy0)) | ((with_reducible refine gate_callee (f := 27) rfl ?_); refine goesL_ (some 52) rfl rfl Try.func27 (by kernel_rfl) rfl #[.slice Ao33 t494.length co33, .int .i64 1] rfl (by (try simp only [List.map_toArray, List.map_cons, List.map_nil]); first | done | (rw [show t494.length = t481.length from (rR6 HO_8.out).1.symm] <;> rfl) | rfl | (simp only [List.length_drop, List.length_take]; rfl)) ?_; (with_reducible refine (laws_heldIntS.calls kj17 _ _ t494 1 t495 _ ?side1 ?side2 A45.out).mono ?_); (case side1 => exact nc_ (rR6 HO_8.out).2.2); (case side2 => rw [show t494.length = t481.length from (rR6 HO_8.out).1.symm]; exact (rR6 HO_8.out).2.1); rintro e w' ⟨rfl, ⟨nd, rfl⟩⟩; refine ⟨_, rfl, ?_⟩; have hnb78 := NB467_480.out; have hnc78 := NB480_467.out; have hcz79_0 : w77.cell? ⟨gb467, 0, none⟩ = some (.int .i64 a0_0) := (bC6 BK467.out 0).trans rfl; have hcz79_1 : w77.cell? ⟨gb467, 1, none⟩ = some (.slice A0_1 l0_1.length c0_1) := (bC6 BK467.out 1).trans rfl; have hfz79_0 := blk_frozen BK467.out 0; have hfz79_1 := blk_frozen BK467.out 1) | ((with_reducible refine gate_callee (f := 22) rfl ?_); refine goesL_ (some 59) rfl rfl Try.func22 (by kernel_rfl) rfl #[.agg #[.int .i64 a0_0, .slice A0_1 l0_1.length c0_1]] rfl na_ ?_; (with_reducible refine (laws_toNet.calls kj17 a0_0 _ _ l0_1 t496 t497 _ ?side1 ?side2 A49.out).mono ?_); (case side1 => exact nc_ (Kd.C_below HR0_1.out (ne_ HB.out))); (case side2 => exact HC0_1.out); rintro e w80 ⟨v498, rfl, ho0, hb⟩; refine ⟨_, rfl, ?_⟩; have n0_ := Aside0.mk (rB6 (nr_ HO_6.out) hb); have n1_ := Aside0.mk (rB6 (nr_ HO_8.out) hb); have n2_ := Aside0.mk (Kd.R_elder' (nr_ HO_481001.out) (Kd.R_base ho0) hb); have n3_ := Aside0.mk (Kd.R_lower (Kd.R_new' ho0 (Kd.R_lt (nr_ HO_481001.out))) (eZ6 (ne_ HB.out))); have n4_ := Aside0.mk (bB6 (g := gb467) (o := .cells #[.int .i64 a0_0, .slice A0_1 l0_1.length c0_1] 39 (0, 0)) (nb_ BK467.out) hb); have n5_ := Aside0.mk (bB6 (g := gb480) (o := .cells #[.int .i64 t476, .slice Ao31 t491.length co31] 25 (0, 0)) (nb_ BK480.out) hb); have n6_ := Aside0.mk (eS6 (ne_ HB.out) hb); clear HO_6; clear HO_8; clear HO_481001; clear BK467; clear BK480; clear HB; have HO_6 := n0_; have HO_8 := n1_; have HO_481001 := n2_; have HO499 := n3_; have BK467 := n4_; have BK480 := n5_; have HB := n6_; clear n0_ n1_ n2_ n3_ n4_ n5_ n6_; (try clear hb); (try clear hb2); (try clear hk); (try clear hi); (try clear ho0); obtain ⟨Ao81, co81, eo81⟩ := Kd.R_slice HO499.out; subst eo81) | ((with_reducible refine gate_callee (f := 18) rfl ?_); refine goesL_ (some 61) rfl rfl Try.func18 (by kernel_rfl) rfl #[.agg #[.int .i64 t496, .slice Ao81 t497.length co81], .int .i64 a1] rfl na_ ?_; (with_reducible refine (impl_NearTo.calls kj17 t496 _ _ t497 a1 t500 _ ?side1 ?side2 A50.out).mono ?_); (case side1 => exact nc_ (rR6 HO499.out).2.2); (case side2 => exact (rR6 HO499.out).2.1); rintro e w82 ⟨v501, rfl, ho0, hb⟩; refine ⟨_, rfl, ?_⟩; have n0_ := Aside0.mk (Kd.R_elder' (nr_ HO_6.out) (Kd.R_base ho0) hb); have n1_ := Aside0.mk (Kd.R_elder' (nr_ HO_8.out) (Kd.R_base ho0) hb); have n2_ := Aside0.mk (rB6 (nr_ HO_481001.out) hb); have n3_ := Aside0.mk (rB6 (nr_ HO499.out) hb); have n4_ := Aside0.mk (Kd.R_lower (Kd.R_new' (Kd.R_new' ho0 (Kd.R_lt (nr_ HO_6.out))) (Kd.R_lt (nr_ HO_8.out))) (eZ6 (ne_ HB.out))); have n5_ := Aside0.mk (bB6 (g := gb467) (o := .cells #[.int .i64 a0_0, .slice A0_1 l0_1.length c0_1] 39 (0, 0)) (nb_ BK467.out) hb); have n6_ := Aside0.mk (bB6 (g := gb480) (o := .cells #[.int .i64 t476, .slice Ao31 t491.length co31] 25 (0, 0)) (nb_ BK480.out) hb); have n7_ := Aside0.mk (eS6 (ne_ HB.out) hb); clear HO_6; clear HO_8; clear HO_481001; clear HO499; clear BK467; clear BK480; clear HB; have HO_6 := n0_; have HO_8 := n1_; have HO_481001 := n2_; have HO499 := n3_; have HO502 := n4_; have BK467 := n5_; have BK480 := n6_; have HB := n7_; clear n0_ n1_ n2_ n3_ n4_ n5_ n6_ n7_; (try clear hb); (try clear hb2); (try clear hk); (try clear hi); (try clear ho0); obtain ⟨Ao83, co83, eo83⟩ := Kd.R_slice HO502.out; subst eo83) | ((with_reducible refine gate_callee (f := 23) rfl ?_); refine goesL_ (some 64) rfl rfl Try.func23 (by kernel_rfl) rfl #[.slice Ao83 t500.length co83, .slice Ao34 t473.length co34] rfl na_ ?_; (with_reducible refine (laws_eqIntS.calls kj17 _ _ t500 _ _ t473 false _ ?side1 ?side2 ?side3 ?side4 A51.out).mono ?_); (case side1 => exact nc_ (rR6 HO502.out).2.2); (case side2 => exact (rR6 HO502.out).2.1); (case side3 => exact nc_ (rR6 HO_6.out).2.2); (case side4 => exact (rR6 HO_6.out).2.1); rintro e w' ⟨rfl, ⟨nd, rfl⟩⟩; refine ⟨_, rfl, ?_⟩))
           go_ret
           exact ⟨by first | rfl | (simp [errW_none, errW_some] <;> rfl) | (simp [*, errW_none, errW_some] <;> rfl), by repeat (first | (with_reducible first | exact HB.out | apply below_alloc | apply eN6 | apply below_drew1 | refine bS6 ?_ GE467.out | refine bS6 ?_ GE480.out) | exact HB.out)⟩
         ·rw [if_neg c48] at H
          have c48b0 : (t495 == t493) = false := beq_eq_false_iff_ne.mpr c48
          have c48b1 : (t495 != t493) = true := bne_iff_ne.mpr c48
          obtain rfl := Option.some.inj H
          go_wp2_with (first | ((with_reducible refine gate_callee (f := 26) rfl ?_); refine goesL_ (some 49) rfl rfl Try.func26 (by kernel_rfl) rfl #[.slice Ao33 t481.length co33, .int .i64 1] rfl na_ ?_; (with_reducible refine (laws_markIntS.calls kj17 (fun k_ => some k_ = (.slice Ao33 t481.length co33 : Value).ownBlock) (.slice Ao33 t481.length co33) t481 1 t493 t494 w _ ?side1 ?side2 A44.out).mono ?_); (case side1 => repeat (first | (with_reducible first | exact HB.out | apply below_alloc | apply eN6 | apply below_drew1 | refine bS6 ?_ GE467.out | refine bS6 ?_ GE480.out) | exact HB.out)); (case side2 => exact Kd.R_tight rfl HO_8.out); rintro e w84 ⟨rfl, hy0, hb, hkp⟩; refine ⟨_, rfl, ?_⟩; have n0_ := Aside0.mk (Kd.R_mono (ok' := fun k_ => some k_ ≠ (.slice Ao33 t481.length co33 : Value).ownBlock) (Kd.R_keptB (HO_6.out) hkp (fun k_ hk_ hs_ => (hk_) hs_)) (fun k_ hk_ => hk_.1)); have n1_ := Aside0.mk (Kd.R_reok rfl hy0 (fun k_ e_ => HO_8.out.1 k_ e_)); have n2_ := Aside0.mk (Kd.R_mono (ok' := fun k_ => True) (Kd.R_keptB ((Kd.R_apart' HO_481001.out (Kd.R_typed HO_8.out) (by decide))) hkp (fun k_ hk_ hs_ => (hk_.2) hs_)) (fun k_ hk_ => trivial)); have n3_ := Aside0.mk (blk_kept (g := gb467) (o := .cells #[.int .i64 a0_0, .slice A0_1 l0_1.length c0_1] 39 (0, 0)) (nb_ BK467.out) hkp (fun hs_ => (fun e_ => (Kd.R_ne HO_8.out BK467.out (by decide)) e_) hs_)); have n4_ := Aside0.mk (blk_kept (g := gb480) (o := .cells #[.int .i64 t476, .slice Ao31 t491.length co31] 25 (0, 0)) (nb_ BK480.out) hkp (fun hs_ => (fun e_ => (Kd.R_ne HO_8.out BK480.out (by decide)) e_) hs_)); have n5_ := Aside0.mk (hb); clear HO_6; clear HO_8; clear HO_481001; clear BK467; clear BK480; clear HB; have HO_6 := n0_; have HO_8 := n1_; have HO_481001 := n2_; have BK467 := n3_; have BK480 := n4_; have HB := n5_; clear n0_ n1_ n2_ n3_ n4_ n5_; (try clear hb); (try clear hkp); (try clear hy0)) | ((with_reducible refine gate_callee (f := 27) rfl ?_); refine goesL_ (some 52) rfl rfl Try.func27 (by kernel_rfl) rfl #[.slice Ao33 t494.length co33, .int .i64 1] rfl (by (try simp only [List.map_toArray, List.map_cons, List.map_nil]); first | done | (rw [show t494.length = t481.length from (rR6 HO_8.out).1.symm] <;> rfl) | rfl | (simp only [List.length_drop, List.length_take]; rfl)) ?_; (with_reducible refine (laws_heldIntS.calls kj17 _ _ t494 1 t495 _ ?side1 ?side2 A45.out).mono ?_); (case side1 => exact nc_ (rR6 HO_8.out).2.2); (case side2 => rw [show t494.length = t481.length from (rR6 HO_8.out).1.symm]; exact (rR6 HO_8.out).2.1); rintro e w' ⟨rfl, ⟨nd, rfl⟩⟩; refine ⟨_, rfl, ?_⟩))
          go_ret
          exact ⟨by first | rfl | (simp [errW_none, errW_some] <;> rfl) | (simp [*, errW_none, errW_some] <;> rfl), by repeat (first | (with_reducible first | exact HB.out | apply below_alloc | apply eN6 | apply below_drew1 | refine bS6 ?_ GE467.out | refine bS6 ?_ GE480.out) | exact HB.out)⟩
    ·replace c16 := Bool.eq_false_iff.mpr c16
     subst c16
     have H1 : (some false) = some r := by rw [if_neg (show ¬ (false = true) by decide)] at H; exact H
     clear H
     have H := H1
     clear H1
     obtain rfl := Option.some.inj H
     go_enter Try.func6, Try.ntmps6
     try go_wp2_with (first | ((with_reducible refine gate_dst (N := 2) rfl ?_); refine box_event ?hg (N := 2) ?hd (cs := #[.int .i64 a0_0, .slice A0_1 l0_1.length c0_1]) (t := 39) ?hr ?_; (case hd => rfl); (case hg => rfl); (case hr => first | (go_simp; done) | (go_simp; rfl)); intro gb467 hg w85 hbox hb; have n0_ := Aside0.mk (eS6 (ne_ HB.out) hb); have n1_ := Aside0.mk (hbox); have n2_ := Aside0.mk ((by rw [hg]; exact (eZ6 (ne_ HB.out)) : w.heap.size ≤ gb467)); have n3_ := Aside0.mk ((by rw [hg]; exact (eZ6 (ne_ HB.out)) : w.heap.size ≤ gb467)); clear HB; have HB := n0_; have BK467 := n1_; have GW467 := n2_; have GE467 := n3_; clear n0_ n1_ n2_ n3_; clear hb hbox hg; have hcz86_0 : w85.cell? ⟨gb467, 0, none⟩ = some (.int .i64 a0_0) := (bC6 BK467.out 0).trans rfl; have hcz86_1 : w85.cell? ⟨gb467, 1, none⟩ = some (.slice A0_1 l0_1.length c0_1) := (bC6 BK467.out 1).trans rfl; have hfz86_0 := blk_frozen BK467.out 0; have hfz86_1 := blk_frozen BK467.out 1) | ((with_reducible refine gate_callee (f := 21) rfl ?_); refine goesL_ (some 15) rfl rfl Try.func21 (by kernel_rfl) rfl #[.agg #[.int .i64 a0_0, .slice A0_1 l0_1.length c0_1], .int .i64 1048576] rfl na_ ?_; (with_reducible refine (laws_szNet.calls a0_0 _ _ l0_1 1048576 t468 _ ?side1 ?side2 A3.out).mono ?_); (case side1 => exact nc_ (Kd.C_below HR0_1.out HB.out)); (case side2 => exact HC0_1.out); rintro e w87 ⟨rfl, hb⟩; refine ⟨_, rfl, ?_⟩; have n0_ := Aside0.mk (bB6 (g := gb467) (o := .cells #[.int .i64 a0_0, .slice A0_1 l0_1.length c0_1] 39 (0, 0)) (nb_ BK467.out) hb); have n1_ := Aside0.mk (eS6 (ne_ HB.out) hb); clear BK467; clear HB; have BK467 := n0_; have HB := n1_; clear n0_ n1_; (try clear hb); (try clear hb2); (try clear hk); (try clear hi); have hcz88_0 : w87.cell? ⟨gb467, 0, none⟩ = some (.int .i64 a0_0) := (bC6 BK467.out 0).trans rfl; have hcz88_1 : w87.cell? ⟨gb467, 1, none⟩ = some (.slice A0_1 l0_1.length c0_1) := (bC6 BK467.out 1).trans rfl; have hfz88_0 := blk_frozen BK467.out 0; have hfz88_1 := blk_frozen BK467.out 1) | ((with_reducible refine gate_callee (f := 22) rfl ?_); refine goesL_ (some 19) rfl rfl Try.func22 (by kernel_rfl) rfl #[.agg #[.int .i64 a0_0, .slice A0_1 l0_1.length c0_1]] rfl na_ ?_; (with_reducible refine (laws_toNet.calls k a0_0 _ _ l0_1 t469 t470 _ ?side1 ?side2 A8.out).mono ?_); (case side1 => exact nc_ (Kd.C_below HR0_1.out HB.out)); (case side2 => exact HC0_1.out); rintro e w89 ⟨v471, rfl, ho0, hb⟩; refine ⟨_, rfl, ?_⟩; have n0_ := Aside0.mk (Kd.R_lower ho0 (eZ6 (ne_ HB.out))); have n1_ := Aside0.mk (bB6 (g := gb467) (o := .cells #[.int .i64 a0_0, .slice A0_1 l0_1.length c0_1] 39 (0, 0)) (nb_ BK467.out) hb); have n2_ := Aside0.mk (eS6 (ne_ HB.out) hb); clear BK467; clear HB; have HO472 := n0_; have BK467 := n1_; have HB := n2_; clear n0_ n1_ n2_; (try clear hb); (try clear hb2); (try clear hk); (try clear hi); (try clear ho0); obtain ⟨Ao90, co90, eo90⟩ := Kd.R_slice HO472.out; subst eo90) | ((with_reducible refine gate_callee (f := 19) rfl ?_); refine goesL_ (some 21) rfl rfl Try.func19 (by kernel_rfl) rfl #[.agg #[.int .i64 t469, .slice Ao90 t470.length co90], .int .i64 a1] rfl na_ ?_; (with_reducible refine (spec_NearTo.calls k t469 _ _ t470 a1 t473 _ ?side1 ?side2 A9.out).mono ?_); (case side1 => exact nc_ (rR6 HO472.out).2.2); (case side2 => exact (rR6 HO472.out).2.1); rintro e w91 ⟨v474, rfl, ho0, hb⟩; refine ⟨_, rfl, ?_⟩; have n0_ := Aside0.mk (rB6 (nr_ HO472.out) hb); have n1_ := Aside0.mk (Kd.R_lower ho0 (eZ6 (ne_ HB.out))); have n2_ := Aside0.mk (bB6 (g := gb467) (o := .cells #[.int .i64 a0_0, .slice A0_1 l0_1.length c0_1] 39 (0, 0)) (nb_ BK467.out) hb); have n3_ := Aside0.mk (eS6 (ne_ HB.out) hb); clear HO472; clear BK467; clear HB; have HO472 := n0_; have HO475 := n1_; have BK467 := n2_; have HB := n3_; clear n0_ n1_ n2_ n3_; (try clear hb); (try clear hb2); (try clear hk); (try clear hi); (try clear ho0); have hcz92_0 : w91.cell? ⟨gb467, 0, none⟩ = some (.int .i64 a0_0) := (bC6 BK467.out 0).trans rfl; have hcz92_1 : w91.cell? ⟨gb467, 1, none⟩ = some (.slice A0_1 l0_1.length c0_1) := (bC6 BK467.out 1).trans rfl; have hfz92_0 := blk_frozen BK467.out 0; have hfz92_1 := blk_frozen BK467.out 1) | ((with_reducible refine gate_callee (f := 22) rfl ?_); refine goesL_ (some 23) rfl rfl Try.func22 (by kernel_rfl) rfl #[.agg #[.int .i64 a0_0, .slice A0_1 l0_1.length c0_1]] rfl na_ ?_; (with_reducible refine (laws_toNet.calls k a0_0 _ _ l0_1 t476 t477 _ ?side1 ?side2 A10.out).mono ?_); (case side1 => exact nc_ (Kd.C_below HR0_1.out HB.out)); (case side2 => exact HC0_1.out); rintro e w93 ⟨v478, rfl, ho0, hb⟩; refine ⟨_, rfl, ?_⟩; have n0_ := Aside0.mk (Kd.R_elder' (nr_ HO472.out) (Kd.R_base ho0) hb); have n1_ := Aside0.mk (rB6 (nr_ HO475.out) hb); have n2_ := Aside0.mk (Kd.R_lower (Kd.R_new' ho0 (Kd.R_lt (nr_ HO472.out))) (eZ6 (ne_ HB.out))); have n3_ := Aside0.mk (bB6 (g := gb467) (o := .cells #[.int .i64 a0_0, .slice A0_1 l0_1.length c0_1] 39 (0, 0)) (nb_ BK467.out) hb); have n4_ := Aside0.mk (eS6 (ne_ HB.out) hb); clear HO472; clear HO475; clear BK467; clear HB; have HO472 := n0_; have HO475 := n1_; have HO479 := n2_; have BK467 := n3_; have HB := n4_; clear n0_ n1_ n2_ n3_ n4_; (try clear hb); (try clear hb2); (try clear hk); (try clear hi); (try clear ho0)) | ((with_reducible refine gate_dst (N := 7) rfl ?_); refine box_event ?hg (N := 7) ?hd (cs := #[.int .i64 0, .slice none 0 0]) (t := 25) ?hr ?_; (case hd => rfl); (case hg => rfl); (case hr => first | (go_simp; done) | (go_simp; rfl)); intro gb480 hg w94 hbox hb; have n0_ := Aside0.mk (rB6 (nr_ HO472.out) hb); have n1_ := Aside0.mk (rB6 (nr_ HO475.out) hb); have n2_ := Aside0.mk (rB6 (nr_ HO479.out) hb); have n3_ := Aside0.mk (bB6 (g := gb467) (o := .cells #[.int .i64 a0_0, .slice A0_1 l0_1.length c0_1] 39 (0, 0)) (nb_ BK467.out) hb); have n4_ := Aside0.mk (eS6 (ne_ HB.out) hb); have n5_ := Aside0.mk (hbox); have n6_ := Aside0.mk ((by rw [hg]; exact (eZ6 (ne_ HB.out)) : w.heap.size ≤ gb480)); have n7_ := Aside0.mk ((by rw [hg]; exact (eZ6 (ne_ HB.out)) : w.heap.size ≤ gb480)); have n8_ := Aside0.mk ((by rw [hg]; exact Nat.ne_of_lt (blk_lt (g := gb467) (o := .cells #[.int .i64 a0_0, .slice A0_1 l0_1.length c0_1] 39 (0, 0)) (nb_ BK467.out)) : gb467 ≠ gb480)); have n9_ := Aside0.mk ((by rw [hg]; exact Nat.ne_of_gt (blk_lt (g := gb467) (o := .cells #[.int .i64 a0_0, .slice A0_1 l0_1.length c0_1] 39 (0, 0)) (nb_ BK467.out)) : gb480 ≠ gb467)); clear HO472; clear HO475; clear HO479; clear BK467; clear HB; have HO472 := n0_; have HO475 := n1_; have HO479 := n2_; have BK467 := n3_; have HB := n4_; have BK480 := n5_; have GW480 := n6_; have GE480 := n7_; have NB467_480 := n8_; have NB480_467 := n9_; clear n0_ n1_ n2_ n3_ n4_ n5_ n6_ n7_ n8_ n9_; clear hb hbox hg; have hnb95 := NB480_467.out; have hnc95 := NB467_480.out; have hcz96_0 : w94.cell? ⟨gb480, 0, none⟩ = some (.int .i64 0) := (bC6 BK480.out 0).trans rfl; have hcz96_1 : w94.cell? ⟨gb480, 1, none⟩ = some (.slice none 0 0) := (bC6 BK480.out 1).trans rfl; have hfz96_0 := blk_frozen BK480.out 0; have hfz96_1 := blk_frozen BK480.out 1; obtain ⟨Ao97, co97, eo97⟩ := Kd.R_slice HO479.out; subst eo97) | ((with_reducible refine gate_callee (f := 18) rfl ?_); refine goesL_ (some 26) rfl rfl Try.func18 (by kernel_rfl) rfl #[.agg #[.int .i64 t476, .slice Ao97 t477.length co97], .int .i64 a1] rfl na_ ?_; (with_reducible refine (impl_NearTo.calls k t476 _ _ t477 a1 t481 _ ?side1 ?side2 A11.out).mono ?_); (case side1 => refine (rR6 (e := 33) (base := w.heap.size) (ok := fun k_ => (True ∧ some k_ ≠ (.slice Ao90 t470.length co90 : Value).ownBlock)) (n := t477.length) (c := co97) ?_).2.2; exact (by (with_reducible repeat (first | apply rA6 | apply rN6 | apply rD6)); exact (Kd.R_mono (Kd.R_far (p := ⟨gb480, 1, none⟩) (Kd.R_far (p := ⟨gb480, 0, none⟩) (Kd.R_types HO479.out BK480.out (by decide)) (fun _ hk => hk.2) (.int .i64 t476)) (fun _ hk => hk.2) (.slice Ao97 t477.length co97)) (fun _ h_ => h_.1)))); (case side2 => exact (rR6 HO479.out).2.1); rintro e w98 ⟨v482, rfl, ho0, hb⟩; refine ⟨_, rfl, ?_⟩; have n0_ := Aside0.mk (rB6 (by (with_reducible repeat (first | apply rA6 | apply rN6 | apply rD6)); exact (Kd.R_mono (Kd.R_far (p := ⟨gb480, 1, none⟩) (Kd.R_far (p := ⟨gb480, 0, none⟩) (Kd.R_types HO472.out BK480.out (by decide)) (fun _ hk => hk.2) (.int .i64 t476)) (fun _ hk => hk.2) (.slice Ao97 t477.length co97)) (fun _ h_ => h_.1))) hb); have n1_ := Aside0.mk (Kd.R_elder' (by (with_reducible repeat (first | apply rA6 | apply rN6 | apply rD6)); exact (Kd.R_mono (Kd.R_far (p := ⟨gb480, 1, none⟩) (Kd.R_far (p := ⟨gb480, 0, none⟩) (Kd.R_types HO475.out BK480.out (by decide)) (fun _ hk => hk.2) (.int .i64 t476)) (fun _ hk => hk.2) (.slice Ao97 t477.length co97)) (fun _ h_ => h_.1))) (Kd.R_base ho0) hb); have n2_ := Aside0.mk (rB6 (by (with_reducible repeat (first | apply rA6 | apply rN6 | apply rD6)); exact (Kd.R_mono (Kd.R_far (p := ⟨gb480, 1, none⟩) (Kd.R_far (p := ⟨gb480, 0, none⟩) (Kd.R_types HO479.out BK480.out (by decide)) (fun _ hk => hk.2) (.int .i64 t476)) (fun _ hk => hk.2) (.slice Ao97 t477.length co97)) (fun _ h_ => h_.1))) hb); have n3_ := Aside0.mk (Kd.R_lower (Kd.R_new' ho0 (Kd.R_lt (by (with_reducible repeat (first | apply rA6 | apply rN6 | apply rD6)); exact (Kd.R_mono (Kd.R_far (p := ⟨gb480, 1, none⟩) (Kd.R_far (p := ⟨gb480, 0, none⟩) (Kd.R_types HO475.out BK480.out (by decide)) (fun _ hk => hk.2) (.int .i64 t476)) (fun _ hk => hk.2) (.slice Ao97 t477.length co97)) (fun _ h_ => h_.1))))) (eZ6 (ne_ HB.out))); have n4_ := Aside0.mk (bB6 (g := gb467) (o := .cells #[.int .i64 a0_0, .slice A0_1 l0_1.length c0_1] 39 (0, 0)) (nbf_ BK467.out) hb); have n5_ := Aside0.mk (bB6 (g := gb480) (o := .cells #[.int .i64 t476, .slice Ao97 t477.length co97] 25 (0, 0)) (by (with_reducible repeat (first | refine blk_drewN ?_ _ | refine blk_drew ?_ | refine blk_alloc ?_ _)); refine blk_put (cs := #[.int .i64 t476, .slice none 0 0]) ?_ 1 _ rfl; (with_reducible repeat (first | refine blk_drewN ?_ _ | refine blk_drew ?_ | refine blk_alloc ?_ _)); refine blk_put (cs := #[.int .i64 0, .slice none 0 0]) ?_ 0 _ rfl; (with_reducible repeat (first | refine blk_drewN ?_ _ | refine blk_drew ?_ | refine blk_alloc ?_ _)); exact BK480.out) hb); have n6_ := Aside0.mk (eS6 (ne_ HB.out) hb); clear HO472; clear HO475; clear HO479; clear BK467; clear BK480; clear HB; have HO472 := n0_; have HO475 := n1_; have HO479 := n2_; have HO483 := n3_; have BK467 := n4_; have BK480 := n5_; have HB := n6_; clear n0_ n1_ n2_ n3_ n4_ n5_ n6_; (try clear hb); (try clear hb2); (try clear hk); (try clear hi); (try clear ho0); obtain ⟨Ao99, co99, eo99⟩ := Kd.R_slice HO483.out; subst eo99; obtain ⟨Ao100, co100, eo100⟩ := Kd.R_slice HO475.out; subst eo100) | ((with_reducible refine gate_callee (f := 23) rfl ?_); refine goesL_ (some 29) rfl rfl Try.func23 (by kernel_rfl) rfl #[.slice Ao99 t481.length co99, .slice Ao100 t473.length co100] rfl na_ ?_; (with_reducible refine (laws_eqIntS.calls k _ _ t481 _ _ t473 true _ ?side1 ?side2 ?side3 ?side4 A12.out).mono ?_); (case side1 => exact nc_ (rR6 HO483.out).2.2); (case side2 => exact (rR6 HO483.out).2.1); (case side3 => exact nc_ (rR6 HO475.out).2.2); (case side4 => exact (rR6 HO475.out).2.1); rintro e w' ⟨rfl, ⟨nd, rfl⟩⟩; refine ⟨_, rfl, ?_⟩))
     (first | (rw [drewN_self w98]; generalize hq_ : World.drewN w98 _ = w98; have n0_ : Aside0 (Kd.R k33 33 w98 w.heap.size (fun k_ => some k_ ≠ (.slice Ao97 t477.length co97 : Value).ownBlock) (.slice Ao90 t470.length co90) t470) := ⟨by rw [← hq_]; exact (by (with_reducible repeat (first | apply rA6 | apply rN6 | apply rD6)); exact Kd.R_mono HO472.out (fun _ hk => by first | exact hk.2 | trivial | simp_all))⟩; have n1_ : Aside0 (Kd.R (Kd.int .i64) 3 w98 w.heap.size (fun k_ => some k_ ≠ (.slice Ao99 t481.length co99 : Value).ownBlock) (.slice Ao100 t473.length co100) t473) := ⟨by rw [← hq_]; exact (by (with_reducible repeat (first | apply rA6 | apply rN6 | apply rD6)); exact Kd.R_mono HO475.out (fun _ hk => by first | exact hk.2 | trivial | simp_all))⟩; have n2_ : Aside0 (Kd.R k33 33 w98 w.heap.size (fun k_ => some k_ ≠ (.slice Ao90 t470.length co90 : Value).ownBlock) (.slice Ao97 t477.length co97) t477) := ⟨by rw [← hq_]; exact (by (with_reducible repeat (first | apply rA6 | apply rN6 | apply rD6)); exact Kd.R_mono HO479.out (fun _ hk => by first | exact hk.2 | trivial | simp_all))⟩; have n3_ : Aside0 (Kd.R (Kd.int .i64) 3 w98 w.heap.size (fun k_ => some k_ ≠ (.slice Ao100 t473.length co100 : Value).ownBlock) (.slice Ao99 t481.length co99) t481) := ⟨by rw [← hq_]; exact (by (with_reducible repeat (first | apply rA6 | apply rN6 | apply rD6)); exact Kd.R_mono HO483.out (fun _ hk => by first | exact hk.2 | trivial | simp_all))⟩; have n4_ : Aside0 (w98.heap[gb467]? = some (.cells #[.int .i64 a0_0, .slice A0_1 l0_1.length c0_1] 39 (0, 0))) := ⟨by rw [← hq_]; exact (nb_ BK467.out)⟩; have n5_ : Aside0 (w98.heap[gb480]? = some (.cells #[.int .i64 t476, .slice Ao97 t477.length co97] 25 (0, 0))) := ⟨by rw [← hq_]; exact (nb_ BK480.out)⟩; have n6_ : Aside0 (Below w.heap.size w w98) := ⟨by rw [← hq_]; exact (ne_ HB.out)⟩; clear HO472 HO475 HO479 HO483 BK467 BK480 HB hq_; have HO472 := n0_; have HO475 := n1_; have HO479 := n2_; have HO483 := n3_; have BK467 := n4_; have BK480 := n5_; have HB := n6_; clear n0_ n1_ n2_ n3_ n4_ n5_ n6_) | (have n0_ : Aside0 (Kd.R k33 33 w98 w.heap.size (fun k_ => some k_ ≠ (.slice Ao97 t477.length co97 : Value).ownBlock) (.slice Ao90 t470.length co90) t470) := ⟨(by (with_reducible repeat (first | apply rA6 | apply rN6 | apply rD6)); exact Kd.R_mono HO472.out (fun _ hk => by first | exact hk.2 | trivial | simp_all))⟩; have n1_ : Aside0 (Kd.R (Kd.int .i64) 3 w98 w.heap.size (fun k_ => some k_ ≠ (.slice Ao99 t481.length co99 : Value).ownBlock) (.slice Ao100 t473.length co100) t473) := ⟨(by (with_reducible repeat (first | apply rA6 | apply rN6 | apply rD6)); exact Kd.R_mono HO475.out (fun _ hk => by first | exact hk.2 | trivial | simp_all))⟩; have n2_ : Aside0 (Kd.R k33 33 w98 w.heap.size (fun k_ => some k_ ≠ (.slice Ao90 t470.length co90 : Value).ownBlock) (.slice Ao97 t477.length co97) t477) := ⟨(by (with_reducible repeat (first | apply rA6 | apply rN6 | apply rD6)); exact Kd.R_mono HO479.out (fun _ hk => by first | exact hk.2 | trivial | simp_all))⟩; have n3_ : Aside0 (Kd.R (Kd.int .i64) 3 w98 w.heap.size (fun k_ => some k_ ≠ (.slice Ao100 t473.length co100 : Value).ownBlock) (.slice Ao99 t481.length co99) t481) := ⟨(by (with_reducible repeat (first | apply rA6 | apply rN6 | apply rD6)); exact Kd.R_mono HO483.out (fun _ hk => by first | exact hk.2 | trivial | simp_all))⟩; have n4_ : Aside0 (w98.heap[gb467]? = some (.cells #[.int .i64 a0_0, .slice A0_1 l0_1.length c0_1] 39 (0, 0))) := ⟨(nb_ BK467.out)⟩; have n5_ : Aside0 (w98.heap[gb480]? = some (.cells #[.int .i64 t476, .slice Ao97 t477.length co97] 25 (0, 0))) := ⟨(nb_ BK480.out)⟩; have n6_ : Aside0 (Below w.heap.size w w98) := ⟨(ne_ HB.out)⟩; clear HO472 HO475 HO479 HO483 BK467 BK480 HB; have HO472 := n0_; have HO475 := n1_; have HO479 := n2_; have HO483 := n3_; have BK467 := n4_; have BK480 := n5_; have HB := n6_; clear n0_ n1_ n2_ n3_ n4_ n5_ n6_))
     have n0_ := Aside0.mk (rD6 HO472.out)
     have n1_ := Aside0.mk (rD6 HO475.out)
     have n2_ := Aside0.mk (rD6 HO479.out)
     have n3_ := Aside0.mk (rD6 HO483.out)
     have n4_ := Aside0.mk (blk_drew BK467.out)
     have n5_ := Aside0.mk (blk_drew BK480.out)
     have n6_ := Aside0.mk (below_drew1 HB.out)
     clear HO472
     clear HO475
     clear HO479
     clear HO483
     clear BK467
     clear BK480
     clear HB
     have HO472 := n0_
     have HO475 := n1_
     have HO479 := n2_
     have HO483 := n3_
     have BK467 := n4_
     have BK480 := n5_
     have HB := n6_
     clear n0_ n1_ n2_ n3_ n4_ n5_ n6_
     refine start_ (n := 5) (S := fun w' => w'.cell? ⟨gb480, 0, none⟩ = some (.int .i64 t476) ∧ w'.cell? ⟨gb480, 1, none⟩ = some (.slice Ao97 t477.length co97) ∧ w'.cell? ⟨gb467, 0, none⟩ = some (.int .i64 a0_0) ∧ w'.cell? ⟨gb467, 1, none⟩ = some (.slice A0_1 l0_1.length c0_1)) (ds := []) #[false, false, false, false, false] (by kernel_rfl) rfl rfl ⟨(bC6 BK480.out 0).trans rfl, (bC6 BK480.out 1).trans rfl, (bC6 BK467.out 0).trans rfl, (bC6 BK467.out 1).trans rfl⟩ (fun hHeld => ?_)
     generalize w98.drew = w101 at HO472 HO475 HO479 HO483 BK467 BK480 HB hHeld ⊢
     refine take_ (i := 0) (N := some 31) (v := ?_) (a' := ?_) #[true, false, false, false, false] rfl rfl (by kernel_rfl) (fun _ _ _ h => h) (Or.inl ⟨by rfl, ?_⟩) hHeld ?_ ?_
     rotate_left
     ·rintro w' ⟨s0, s1, s2, s3⟩
      go_simp
      with_reducible rfl
     rotate_left
     ·simp only [Act.put, List.setIfInBounds_toArray, List.set_cons_zero, List.set_cons_succ, i64_w, i32_w]
      rfl
     refine take_ (i := 1) (N := some 32) (v := ?_) (a' := ?_) #[true, true, false, false, false] rfl rfl (by kernel_rfl) (fun _ _ _ h => h) (Or.inl ⟨by rfl, ?_⟩) hHeld ?_ ?_
     rotate_left
     ·rintro w' ⟨s0, s1, s2, s3⟩
      go_simp
      with_reducible rfl
     rotate_left
     ·simp only [Act.put, List.setIfInBounds_toArray, List.set_cons_zero, List.set_cons_succ, i64_w, i32_w]
      rfl
     refine one_ (i := 2) (N := some 33) #[true, true, true, false, false] rfl rfl (by kernel_rfl) (by decide) (fun K hK => ?_)
     refine goes_ Try.func22 (by kernel_rfl) rfl #[.agg #[.int .i64 a0_0, .slice A0_1 l0_1.length c0_1]] (by rfl) rfl rfl na_ ?_
     with_reducible refine (laws_toNet.calls k a0_0 _ _ l0_1 t485 t486 _ ?side1 ?side2 A14.out).mono ?_
     (case side1 => exact nc_ (Kd.C_below HR0_1.out HB.out))
     (case side2 => exact HC0_1.out)
     rintro e w102 ⟨v487, rfl, ho0, hb⟩
     refine ⟨_, rfl, ?_⟩
     have n0_ := Aside0.mk (Kd.R_elder' (nr_ HO472.out) (Kd.R_base ho0) hb)
     have n1_ := Aside0.mk (rB6 (nr_ HO475.out) hb)
     have n2_ := Aside0.mk (Kd.R_elder' (nr_ HO479.out) (Kd.R_base ho0) hb)
     have n3_ := Aside0.mk (rB6 (nr_ HO483.out) hb)
     have n4_ := Aside0.mk (Kd.R_lower (Kd.R_new' (Kd.R_new' ho0 (Kd.R_lt (nr_ HO472.out))) (Kd.R_lt (nr_ HO479.out))) (eZ6 (ne_ HB.out)))
     have n5_ := Aside0.mk (bB6 (g := gb467) (o := .cells #[.int .i64 a0_0, .slice A0_1 l0_1.length c0_1] 39 (0, 0)) (nb_ BK467.out) hb)
     have n6_ := Aside0.mk (bB6 (g := gb480) (o := .cells #[.int .i64 t476, .slice Ao97 t477.length co97] 25 (0, 0)) (nb_ BK480.out) hb)
     have n7_ := Aside0.mk (eS6 (ne_ HB.out) hb)
     clear HO472
     clear HO475
     clear HO479
     clear HO483
     clear BK467
     clear BK480
     clear HB
     have HO472 := n0_
     have HO475 := n1_
     have HO479 := n2_
     have HO483 := n3_
     have HO488 := n4_
     have BK467 := n5_
     have BK480 := n6_
     have HB := n7_
     clear n0_ n1_ n2_ n3_ n4_ n5_ n6_ n7_
     (try clear hb)
     (try clear hb2)
     (try clear hk)
     (try clear hi)
     (try clear ho0)
     obtain ⟨Ao103, co103, eo103⟩ := Kd.R_slice HO488.out
     (first | subst eo103 | (injection eo103 with f1_ f2_ f3_; have f4_ := f1_.symm; have f5_ := f3_.symm; clear f1_ f2_ f3_; subst f4_; subst f5_))
     refine hK.out _ _ ⟨(bC6 BK480.out 0).trans rfl, (bC6 BK480.out 1).trans rfl, (bC6 BK467.out 0).trans rfl, (bC6 BK467.out 1).trans rfl⟩ (fun hHeld => ?_)
     clear hK K
     refine norm_ (a' := ?_) ?_ ?_
     rotate_left
     ·show Act.put _ (some 33) _ = _
      simp only [Act.put, List.setIfInBounds_toArray, List.set_cons_zero, List.set_cons_succ, i64_w, i32_w]
      rfl
     refine one_ (i := 3) (N := some 34) #[true, true, true, true, false] rfl rfl (by kernel_rfl) (by decide) (fun K hK => ?_)
     refine goes_ Try.func24 (by kernel_rfl) rfl #[.agg #[.int .i64 t476, .slice Ao97 t477.length co97], .agg #[.int .i64 t485, .slice Ao103 t486.length co103]] (by rfl) rfl rfl na_ ?_
     with_reducible refine (laws_eqNet.calls k t476 _ _ t477 t485 _ _ t486 false _ ?side1 ?side2 ?side3 ?side4 A15.out).mono ?_
     (case side1 => exact nc_ (rR6 HO479.out).2.2)
     (case side2 => exact (rR6 HO479.out).2.1)
     (case side3 => exact nc_ (rR6 HO488.out).2.2)
     (case side4 => exact (rR6 HO488.out).2.1)
     rintro e w104 ⟨rfl, hb⟩
     refine ⟨_, rfl, ?_⟩
     have n0_ := Aside0.mk (rB6 (nr_ HO472.out) hb)
     have n1_ := Aside0.mk (rB6 (nr_ HO475.out) hb)
     have n2_ := Aside0.mk (rB6 (nr_ HO479.out) hb)
     have n3_ := Aside0.mk (rB6 (nr_ HO483.out) hb)
     have n4_ := Aside0.mk (rB6 (nr_ HO488.out) hb)
     have n5_ := Aside0.mk (bB6 (g := gb467) (o := .cells #[.int .i64 a0_0, .slice A0_1 l0_1.length c0_1] 39 (0, 0)) (nb_ BK467.out) hb)
     have n6_ := Aside0.mk (bB6 (g := gb480) (o := .cells #[.int .i64 t476, .slice Ao97 t477.length co97] 25 (0, 0)) (nb_ BK480.out) hb)
     have n7_ := Aside0.mk (eS6 (ne_ HB.out) hb)
     clear HO472
     clear HO475
     clear HO479
     clear HO483
     clear HO488
     clear BK467
     clear BK480
     clear HB
     have HO472 := n0_
     have HO475 := n1_
     have HO479 := n2_
     have HO483 := n3_
     have HO488 := n4_
     have BK467 := n5_
     have BK480 := n6_
     have HB := n7_
     clear n0_ n1_ n2_ n3_ n4_ n5_ n6_ n7_
     (try clear hb)
     (try clear hb2)
     (try clear hk)
     (try clear hi)
     refine hK.out _ _ ⟨(bC6 BK480.out 0).trans rfl, (bC6 BK480.out 1).trans rfl, (bC6 BK467.out 0).trans rfl, (bC6 BK467.out 1).trans rfl⟩ (fun hHeld => ?_)
     clear hK K
     refine norm_ (a' := ?_) ?_ ?_
     rotate_left
     ·show Act.put _ (some 34) _ = _
      simp only [Act.put, List.setIfInBounds_toArray, List.set_cons_zero, List.set_cons_succ, i64_w, i32_w]
      rfl
     refine pure_ (i := 4) (N := some 35) (v := ?_) (a' := ?_) #[true, true, true, true, true] rfl rfl (by kernel_rfl) (fun _ _ _ h => h) (Or.inl ⟨by rfl, ?_⟩) ?_ ?_
     rotate_left
     ·intro w'
      go_simp
      with_reducible rfl
     rotate_left
     ·simp only [Act.put, List.setIfInBounds_toArray, List.set_cons_zero, List.set_cons_succ, i64_w, i32_w]
      rfl
     refine done_ (by kernel_rfl) ?_
     try go_wp2
     go_ret
     exact ⟨by first | rfl | (simp [errW_none, errW_some] <;> rfl) | (simp [*, errW_none, errW_some] <;> rfl), by repeat (first | (with_reducible first | exact HB.out | apply below_alloc | apply eN6 | apply below_drew1 | refine bS6 ?_ GE467.out | refine bS6 ?_ GE480.out) | exact HB.out)⟩
   ·replace c13 := Bool.eq_false_iff.mpr c13
    subst c13
    have H1 : (some false) = some r := by rw [if_neg (show ¬ (false = true) by decide)] at H; exact H
    clear H
    have H := H1
    clear H1
    obtain rfl := Option.some.inj H
    go_enter Try.func6, Try.ntmps6
    go_wp2_with (first | ((with_reducible refine gate_dst (N := 2) rfl ?_); refine box_event ?hg (N := 2) ?hd (cs := #[.int .i64 a0_0, .slice A0_1 l0_1.length c0_1]) (t := 39) ?hr ?_; (case hd => rfl); (case hg => rfl); (case hr => first | (go_simp; done) | (go_simp; rfl)); intro gb467 hg w105 hbox hb; have n0_ := Aside0.mk (eS6 (ne_ HB.out) hb); have n1_ := Aside0.mk (hbox); have n2_ := Aside0.mk ((by rw [hg]; exact (eZ6 (ne_ HB.out)) : w.heap.size ≤ gb467)); have n3_ := Aside0.mk ((by rw [hg]; exact (eZ6 (ne_ HB.out)) : w.heap.size ≤ gb467)); clear HB; have HB := n0_; have BK467 := n1_; have GW467 := n2_; have GE467 := n3_; clear n0_ n1_ n2_ n3_; clear hb hbox hg; have hcz106_0 : w105.cell? ⟨gb467, 0, none⟩ = some (.int .i64 a0_0) := (bC6 BK467.out 0).trans rfl; have hcz106_1 : w105.cell? ⟨gb467, 1, none⟩ = some (.slice A0_1 l0_1.length c0_1) := (bC6 BK467.out 1).trans rfl; have hfz106_0 := blk_frozen BK467.out 0; have hfz106_1 := blk_frozen BK467.out 1) | ((with_reducible refine gate_callee (f := 21) rfl ?_); refine goesL_ (some 15) rfl rfl Try.func21 (by kernel_rfl) rfl #[.agg #[.int .i64 a0_0, .slice A0_1 l0_1.length c0_1], .int .i64 1048576] rfl na_ ?_; (with_reducible refine (laws_szNet.calls a0_0 _ _ l0_1 1048576 t468 _ ?side1 ?side2 A3.out).mono ?_); (case side1 => exact nc_ (Kd.C_below HR0_1.out HB.out)); (case side2 => exact HC0_1.out); rintro e w107 ⟨rfl, hb⟩; refine ⟨_, rfl, ?_⟩; have n0_ := Aside0.mk (bB6 (g := gb467) (o := .cells #[.int .i64 a0_0, .slice A0_1 l0_1.length c0_1] 39 (0, 0)) (nb_ BK467.out) hb); have n1_ := Aside0.mk (eS6 (ne_ HB.out) hb); clear BK467; clear HB; have BK467 := n0_; have HB := n1_; clear n0_ n1_; (try clear hb); (try clear hb2); (try clear hk); (try clear hi); have hcz108_0 : w107.cell? ⟨gb467, 0, none⟩ = some (.int .i64 a0_0) := (bC6 BK467.out 0).trans rfl; have hcz108_1 : w107.cell? ⟨gb467, 1, none⟩ = some (.slice A0_1 l0_1.length c0_1) := (bC6 BK467.out 1).trans rfl; have hfz108_0 := blk_frozen BK467.out 0; have hfz108_1 := blk_frozen BK467.out 1) | ((with_reducible refine gate_callee (f := 22) rfl ?_); refine goesL_ (some 19) rfl rfl Try.func22 (by kernel_rfl) rfl #[.agg #[.int .i64 a0_0, .slice A0_1 l0_1.length c0_1]] rfl na_ ?_; (with_reducible refine (laws_toNet.calls k a0_0 _ _ l0_1 t469 t470 _ ?side1 ?side2 A8.out).mono ?_); (case side1 => exact nc_ (Kd.C_below HR0_1.out HB.out)); (case side2 => exact HC0_1.out); rintro e w109 ⟨v471, rfl, ho0, hb⟩; refine ⟨_, rfl, ?_⟩; have n0_ := Aside0.mk (Kd.R_lower ho0 (eZ6 (ne_ HB.out))); have n1_ := Aside0.mk (bB6 (g := gb467) (o := .cells #[.int .i64 a0_0, .slice A0_1 l0_1.length c0_1] 39 (0, 0)) (nb_ BK467.out) hb); have n2_ := Aside0.mk (eS6 (ne_ HB.out) hb); clear BK467; clear HB; have HO472 := n0_; have BK467 := n1_; have HB := n2_; clear n0_ n1_ n2_; (try clear hb); (try clear hb2); (try clear hk); (try clear hi); (try clear ho0); obtain ⟨Ao110, co110, eo110⟩ := Kd.R_slice HO472.out; subst eo110) | ((with_reducible refine gate_callee (f := 19) rfl ?_); refine goesL_ (some 21) rfl rfl Try.func19 (by kernel_rfl) rfl #[.agg #[.int .i64 t469, .slice Ao110 t470.length co110], .int .i64 a1] rfl na_ ?_; (with_reducible refine (spec_NearTo.calls k t469 _ _ t470 a1 t473 _ ?side1 ?side2 A9.out).mono ?_); (case side1 => exact nc_ (rR6 HO472.out).2.2); (case side2 => exact (rR6 HO472.out).2.1); rintro e w111 ⟨v474, rfl, ho0, hb⟩; refine ⟨_, rfl, ?_⟩; have n0_ := Aside0.mk (rB6 (nr_ HO472.out) hb); have n1_ := Aside0.mk (Kd.R_lower ho0 (eZ6 (ne_ HB.out))); have n2_ := Aside0.mk (bB6 (g := gb467) (o := .cells #[.int .i64 a0_0, .slice A0_1 l0_1.length c0_1] 39 (0, 0)) (nb_ BK467.out) hb); have n3_ := Aside0.mk (eS6 (ne_ HB.out) hb); clear HO472; clear BK467; clear HB; have HO472 := n0_; have HO475 := n1_; have BK467 := n2_; have HB := n3_; clear n0_ n1_ n2_ n3_; (try clear hb); (try clear hb2); (try clear hk); (try clear hi); (try clear ho0); have hcz112_0 : w111.cell? ⟨gb467, 0, none⟩ = some (.int .i64 a0_0) := (bC6 BK467.out 0).trans rfl; have hcz112_1 : w111.cell? ⟨gb467, 1, none⟩ = some (.slice A0_1 l0_1.length c0_1) := (bC6 BK467.out 1).trans rfl; have hfz112_0 := blk_frozen BK467.out 0; have hfz112_1 := blk_frozen BK467.out 1) | ((with_reducible refine gate_callee (f := 22) rfl ?_); refine goesL_ (some 23) rfl rfl Try.func22 (by kernel_rfl) rfl #[.agg #[.int .i64 a0_0, .slice A0_1 l0_1.length c0_1]] rfl na_ ?_; (with_reducible refine (laws_toNet.calls k a0_0 _ _ l0_1 t476 t477 _ ?side1 ?side2 A10.out).mono ?_); (case side1 => exact nc_ (Kd.C_below HR0_1.out HB.out)); (case side2 => exact HC0_1.out); rintro e w113 ⟨v478, rfl, ho0, hb⟩; refine ⟨_, rfl, ?_⟩; have n0_ := Aside0.mk (Kd.R_elder' (nr_ HO472.out) (Kd.R_base ho0) hb); have n1_ := Aside0.mk (rB6 (nr_ HO475.out) hb); have n2_ := Aside0.mk (Kd.R_lower (Kd.R_new' ho0 (Kd.R_lt (nr_ HO472.out))) (eZ6 (ne_ HB.out))); have n3_ := Aside0.mk (bB6 (g := gb467) (o := .cells #[.int .i64 a0_0, .slice A0_1 l0_1.length c0_1] 39 (0, 0)) (nb_ BK467.out) hb); have n4_ := Aside0.mk (eS6 (ne_ HB.out) hb); clear HO472; clear HO475; clear BK467; clear HB; have HO472 := n0_; have HO475 := n1_; have HO479 := n2_; have BK467 := n3_; have HB := n4_; clear n0_ n1_ n2_ n3_ n4_; (try clear hb); (try clear hb2); (try clear hk); (try clear hi); (try clear ho0)) | ((with_reducible refine gate_dst (N := 7) rfl ?_); refine box_event ?hg (N := 7) ?hd (cs := #[.int .i64 0, .slice none 0 0]) (t := 25) ?hr ?_; (case hd => rfl); (case hg => rfl); (case hr => first | (go_simp; done) | (go_simp; rfl)); intro gb480 hg w114 hbox hb; have n0_ := Aside0.mk (rB6 (nr_ HO472.out) hb); have n1_ := Aside0.mk (rB6 (nr_ HO475.out) hb); have n2_ := Aside0.mk (rB6 (nr_ HO479.out) hb); have n3_ := Aside0.mk (bB6 (g := gb467) (o := .cells #[.int .i64 a0_0, .slice A0_1 l0_1.length c0_1] 39 (0, 0)) (nb_ BK467.out) hb); have n4_ := Aside0.mk (eS6 (ne_ HB.out) hb); have n5_ := Aside0.mk (hbox); have n6_ := Aside0.mk ((by rw [hg]; exact (eZ6 (ne_ HB.out)) : w.heap.size ≤ gb480)); have n7_ := Aside0.mk ((by rw [hg]; exact (eZ6 (ne_ HB.out)) : w.heap.size ≤ gb480)); have n8_ := Aside0.mk ((by rw [hg]; exact Nat.ne_of_lt (blk_lt (g := gb467) (o := .cells #[.int .i64 a0_0, .slice A0_1 l0_1.length c0_1] 39 (0, 0)) (nb_ BK467.out)) : gb467 ≠ gb480)); have n9_ := Aside0.mk ((by rw [hg]; exact Nat.ne_of_gt (blk_lt (g := gb467) (o := .cells #[.int .i64 a0_0, .slice A0_1 l0_1.length c0_1] 39 (0, 0)) (nb_ BK467.out)) : gb480 ≠ gb467)); clear HO472; clear HO475; clear HO479; clear BK467; clear HB; have HO472 := n0_; have HO475 := n1_; have HO479 := n2_; have BK467 := n3_; have HB := n4_; have BK480 := n5_; have GW480 := n6_; have GE480 := n7_; have NB467_480 := n8_; have NB480_467 := n9_; clear n0_ n1_ n2_ n3_ n4_ n5_ n6_ n7_ n8_ n9_; clear hb hbox hg; have hnb115 := NB480_467.out; have hnc115 := NB467_480.out; have hcz116_0 : w114.cell? ⟨gb480, 0, none⟩ = some (.int .i64 0) := (bC6 BK480.out 0).trans rfl; have hcz116_1 : w114.cell? ⟨gb480, 1, none⟩ = some (.slice none 0 0) := (bC6 BK480.out 1).trans rfl; have hfz116_0 := blk_frozen BK480.out 0; have hfz116_1 := blk_frozen BK480.out 1; obtain ⟨Ao117, co117, eo117⟩ := Kd.R_slice HO479.out; subst eo117) | ((with_reducible refine gate_callee (f := 18) rfl ?_); refine goesL_ (some 26) rfl rfl Try.func18 (by kernel_rfl) rfl #[.agg #[.int .i64 t476, .slice Ao117 t477.length co117], .int .i64 a1] rfl na_ ?_; (with_reducible refine (impl_NearTo.calls k t476 _ _ t477 a1 t481 _ ?side1 ?side2 A11.out).mono ?_); (case side1 => refine (rR6 (e := 33) (base := w.heap.size) (ok := fun k_ => (True ∧ some k_ ≠ (.slice Ao110 t470.length co110 : Value).ownBlock)) (n := t477.length) (c := co117) ?_).2.2; exact (by (with_reducible repeat (first | apply rA6 | apply rN6 | apply rD6)); exact (Kd.R_mono (Kd.R_far (p := ⟨gb480, 1, none⟩) (Kd.R_far (p := ⟨gb480, 0, none⟩) (Kd.R_types HO479.out BK480.out (by decide)) (fun _ hk => hk.2) (.int .i64 t476)) (fun _ hk => hk.2) (.slice Ao117 t477.length co117)) (fun _ h_ => h_.1)))); (case side2 => exact (rR6 HO479.out).2.1); rintro e w118 ⟨v482, rfl, ho0, hb⟩; refine ⟨_, rfl, ?_⟩; have n0_ := Aside0.mk (rB6 (by (with_reducible repeat (first | apply rA6 | apply rN6 | apply rD6)); exact (Kd.R_mono (Kd.R_far (p := ⟨gb480, 1, none⟩) (Kd.R_far (p := ⟨gb480, 0, none⟩) (Kd.R_types HO472.out BK480.out (by decide)) (fun _ hk => hk.2) (.int .i64 t476)) (fun _ hk => hk.2) (.slice Ao117 t477.length co117)) (fun _ h_ => h_.1))) hb); have n1_ := Aside0.mk (Kd.R_elder' (by (with_reducible repeat (first | apply rA6 | apply rN6 | apply rD6)); exact (Kd.R_mono (Kd.R_far (p := ⟨gb480, 1, none⟩) (Kd.R_far (p := ⟨gb480, 0, none⟩) (Kd.R_types HO475.out BK480.out (by decide)) (fun _ hk => hk.2) (.int .i64 t476)) (fun _ hk => hk.2) (.slice Ao117 t477.length co117)) (fun _ h_ => h_.1))) (Kd.R_base ho0) hb); have n2_ := Aside0.mk (rB6 (by (with_reducible repeat (first | apply rA6 | apply rN6 | apply rD6)); exact (Kd.R_mono (Kd.R_far (p := ⟨gb480, 1, none⟩) (Kd.R_far (p := ⟨gb480, 0, none⟩) (Kd.R_types HO479.out BK480.out (by decide)) (fun _ hk => hk.2) (.int .i64 t476)) (fun _ hk => hk.2) (.slice Ao117 t477.length co117)) (fun _ h_ => h_.1))) hb); have n3_ := Aside0.mk (Kd.R_lower (Kd.R_new' ho0 (Kd.R_lt (by (with_reducible repeat (first | apply rA6 | apply rN6 | apply rD6)); exact (Kd.R_mono (Kd.R_far (p := ⟨gb480, 1, none⟩) (Kd.R_far (p := ⟨gb480, 0, none⟩) (Kd.R_types HO475.out BK480.out (by decide)) (fun _ hk => hk.2) (.int .i64 t476)) (fun _ hk => hk.2) (.slice Ao117 t477.length co117)) (fun _ h_ => h_.1))))) (eZ6 (ne_ HB.out))); have n4_ := Aside0.mk (bB6 (g := gb467) (o := .cells #[.int .i64 a0_0, .slice A0_1 l0_1.length c0_1] 39 (0, 0)) (nbf_ BK467.out) hb); have n5_ := Aside0.mk (bB6 (g := gb480) (o := .cells #[.int .i64 t476, .slice Ao117 t477.length co117] 25 (0, 0)) (by (with_reducible repeat (first | refine blk_drewN ?_ _ | refine blk_drew ?_ | refine blk_alloc ?_ _)); refine blk_put (cs := #[.int .i64 t476, .slice none 0 0]) ?_ 1 _ rfl; (with_reducible repeat (first | refine blk_drewN ?_ _ | refine blk_drew ?_ | refine blk_alloc ?_ _)); refine blk_put (cs := #[.int .i64 0, .slice none 0 0]) ?_ 0 _ rfl; (with_reducible repeat (first | refine blk_drewN ?_ _ | refine blk_drew ?_ | refine blk_alloc ?_ _)); exact BK480.out) hb); have n6_ := Aside0.mk (eS6 (ne_ HB.out) hb); clear HO472; clear HO475; clear HO479; clear BK467; clear BK480; clear HB; have HO472 := n0_; have HO475 := n1_; have HO479 := n2_; have HO483 := n3_; have BK467 := n4_; have BK480 := n5_; have HB := n6_; clear n0_ n1_ n2_ n3_ n4_ n5_ n6_; (try clear hb); (try clear hb2); (try clear hk); (try clear hi); (try clear ho0); obtain ⟨Ao119, co119, eo119⟩ := Kd.R_slice HO483.out; subst eo119; obtain ⟨Ao120, co120, eo120⟩ := Kd.R_slice HO475.out; subst eo120) | ((with_reducible refine gate_callee (f := 23) rfl ?_); refine goesL_ (some 29) rfl rfl Try.func23 (by kernel_rfl) rfl #[.slice Ao119 t481.length co119, .slice Ao120 t473.length co120] rfl na_ ?_; (with_reducible refine (laws_eqIntS.calls k _ _ t481 _ _ t473 false _ ?side1 ?side2 ?side3 ?side4 A12.out).mono ?_); (case side1 => exact nc_ (rR6 HO483.out).2.2); (case side2 => exact (rR6 HO483.out).2.1); (case side3 => exact nc_ (rR6 HO475.out).2.2); (case side4 => exact (rR6 HO475.out).2.1); rintro e w' ⟨rfl, ⟨nd, rfl⟩⟩; refine ⟨_, rfl, ?_⟩))
    go_ret
    exact ⟨by first | rfl | (simp [errW_none, errW_some] <;> rfl) | (simp [*, errW_none, errW_some] <;> rfl), by repeat (first | (with_reducible first | exact HB.out | apply below_alloc | apply eN6 | apply below_drew1 | refine bS6 ?_ GE467.out | refine bS6 ?_ GE480.out) | exact HB.out)⟩

/-- THE ONE PURE STATEMENT of laws_FnExactNearTo. -/
def laws_FnExactNearTo.Pure : Prop := ∀ (a0_0 : Int) (l0_1 : List (S84)) (a1 : Int), (Lit.int .i64 a0_0).wf = true → l0_1.length ≤ maxLen → (∀ x ∈ l0_1, (Lit.int .i64 x.f0).wf = true ∧ (Lit.int .i64 x.f1).wf = true ∧ (Lit.int .i64 x.f2).wf = true ∧ (Lit.int .i64 x.f3).wf = true ∧ (Lit.int .i64 x.f4).wf = true) → (Lit.int .i64 a1).wf = true → ∃ k, laws_FnExactNearTo.f k a0_0 l0_1 a1 = some true
theorem laws_FnExactNearTo.walk (P : laws_FnExactNearTo.Pure) (a0_0 : Int) (A0_1 : Option Addr) (c0_1 : Nat) (l0_1 : List (S84)) (a1 : Int) (w : World) (hw0_0 : (Lit.int .i64 a0_0).wf = true) (hr0_1 : Kd.C k84 w A0_1 l0_1.length l0_1) (hm0_1 : l0_1.length ≤ maxLen) (hw0_1 : ∀ x ∈ l0_1, (Lit.int .i64 x.f0).wf = true ∧ (Lit.int .i64 x.f1).wf = true ∧ (Lit.int .i64 x.f2).wf = true ∧ (Lit.int .i64 x.f3).wf = true ∧ (Lit.int .i64 x.f4).wf = true) (hc0_1 : l0_1.length ≤ c0_1) (hw1 : (Lit.int .i64 a1).wf = true) :
    Calls Try.prog 6 #[.agg #[.int .i64 a0_0, .slice A0_1 l0_1.length c0_1], .int .i64 a1] w fun e w' => e = .returned (.bool true) ∧ Below w.heap.size w w' := by
  obtain ⟨k, h⟩ := P a0_0 l0_1 a1 hw0_0 hm0_1 hw0_1 hw1
  refine (laws_FnExactNearTo.calls k a0_0 A0_1 c0_1 l0_1 a1 true w hr0_1 hc0_1 h).mono ?_
  rintro e w' ⟨rfl, hd⟩
  exact ⟨rfl, hd⟩

end Go.Proofs.Ytbmoonciggfbpaa.Print
