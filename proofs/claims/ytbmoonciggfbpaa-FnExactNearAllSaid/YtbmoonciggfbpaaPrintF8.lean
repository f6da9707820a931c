-- Made by this session's own program (wip/patch_print.py, over the kit's print). Lean checks it.
import Derived.Test.YtbmoonciggfbpaaPrint0
import Derived.Test.YtbmoonciggfbpaaPrintB
import Derived.Test.YtbmoonciggfbpaaPrintF14
import Derived.Test.YtbmoonciggfbpaaPrintF16
import Derived.Test.YtbmoonciggfbpaaPrintF22
import Derived.Test.YtbmoonciggfbpaaPrintF24
import Derived.Test.YtbmoonciggfbpaaPrintF25
namespace Go.Proofs.Ytbmoonciggfbpaa.Print
open Go.RowKit Go.Proofs.YtbmoonciggfbpaaW.PrintWords Go.Proofs.YtbmoonciggfbpaaW.PrintLast Go.Proofs.YtbmoonciggfbpaaW.PrintMore Go.Proofs.YtbmoonciggfbpaaX
attribute [local go_sem] max2_int min2_int max_two min_two max_three min_three max_four min_four   -- for this text's walks alone
set_option linter.unusedVariables false
set_option linter.unusedSimpArgs false

abbrev rA8 := @Kd.R_alloc
abbrev rN8 := @Kd.R_drewN
abbrev rD8 := @Kd.R_drew
abbrev bS8 := @below_set
abbrev eN8 := @pw_below_drewN
abbrev bB8 := @blk_below
abbrev bC8 := @blk_cell
abbrev eS8 := @below_step
abbrev eZ8 := @below_size
abbrev rB8 := @Kd.R_below
abbrev rR8 := @Kd.R_reads'
/-! ### laws_FnExactNearAll: function 8 -/
def laws_FnExactNearAll.j0 : Nat → Int → List Int → List Int → Bool → Int → List (S84) → Option (Bool)
  | 0, _, _, _, _, _, _ => none
  | k + 1, x1, x6, x8, x46, x626000, x626001 => if x46 = true then (some false) else ((laws_markIntS.f k x8 1).bind fun bt651 => ((laws_heldIntS.f k bt651.2 1).bind fun t653 => (if t653 < 0 then (some false) else (if t653 = bt651.1 then ((laws_toNet.f k x626000 x626001).bind fun bt654 => ((impl_NearAll.f k bt654.1 bt654.2 x1).bind fun t658 => ((laws_eqIntS.f k t658 x6).bind fun t661 => (if t661 = true then ((laws_heldIntS.f k bt651.2 1).bind fun t662 => (if t662 < 0 then (some false) else (if t662 = bt651.1 then (some true) else (some false)))) else (some false))))) else (some false)))))
def laws_FnExactNearAll.f (k : Nat) (a0_0 : Int) (l0_1 : List (S84)) (a1 : Int) : Option (Bool) := (laws_szNet.f a0_0 l0_1 1048576).bind fun t626 => (if t626 < 0 then (some true) else ((laws_toNet.f k a0_0 l0_1).bind fun bt627 => ((spec_NearAll.f k bt627.1 bt627.2 a1).bind fun t631 => ((laws_toNet.f k a0_0 l0_1).bind fun bt634 => ((impl_NearAll.f k bt634.1 bt634.2 a1).bind fun t639 => ((laws_eqIntS.f k t639 t631).bind fun t642 => (if t642 = true then ((laws_toNet.f k a0_0 l0_1).bind fun bt643 => ((laws_eqNet.f k bt634.1 bt634.2 bt643.1 bt643.2).bind fun t647 => (if t647 = true then ((laws_markNet.f k bt634.1 bt634.2 1).bind fun bt648 => (if bt648.1 < 0 then (laws_FnExactNearAll.j0 k a1 t631 t639 true a0_0 l0_1) else ((laws_eqIntS.f k t639 t631).bind fun t650 => (laws_FnExactNearAll.j0 k a1 t631 t639 (!t650) a0_0 l0_1)))) else (some false)))) else (some false))))))))
theorem laws_FnExactNearAll.mono_l : ∀ k, (∀ y0 y1 y2 y3 y4 y5, LeO (laws_FnExactNearAll.j0 k y0 y1 y2 y3 y4 y5) (laws_FnExactNearAll.j0 (k + 1) y0 y1 y2 y3 y4 y5))
  | 0 => fun _ _ _ _ _ _ r h => by simp [laws_FnExactNearAll.j0] at h
  | k + 1 => by
    have ih0 := laws_FnExactNearAll.mono_l k
    · intro y0 y1 y2 y3 y4 y5
      unfold laws_FnExactNearAll.j0
      repeat' first
      | (with_reducible exact ih0 _ _ _ _ _ _)
      | (with_reducible exact impl_NearAll.mono _ _ _ _)
      | (with_reducible exact laws_eqIntS.mono _ _ _)
      | (with_reducible exact laws_eqNet.mono _ _ _ _ _)
      | (with_reducible exact laws_heldIntS.mono _ _ _)
      | (with_reducible exact laws_markIntS.mono _ _ _)
      | (with_reducible exact laws_markNet.mono _ _ _ _)
      | (with_reducible exact laws_toNet.mono _ _ _)
      | (with_reducible exact spec_NearAll.mono _ _ _ _)
      | (with_reducible exact LeO.refl _)
      | (with_reducible exact LeO.none _)
      | (with_reducible refine LeO.ite ?_ ?_)
      | (with_reducible refine LeO.bind ?_ (fun _ => ?_))
      | exact ih0 _ _ _ _ _ _
      | exact impl_NearAll.mono _ _ _ _
      | exact laws_eqIntS.mono _ _ _
      | exact laws_eqNet.mono _ _ _ _ _
      | exact laws_heldIntS.mono _ _ _
      | exact laws_markIntS.mono _ _ _
      | exact laws_markNet.mono _ _ _ _
      | exact laws_toNet.mono _ _ _
      | exact spec_NearAll.mono _ _ _ _
      | exact LeO.none _
      | refine LeO.ite ?_ ?_
      | refine LeO.bind ?_ (fun _ => ?_)
theorem laws_FnExactNearAll.mono : ∀ a0 a1 a2 k, LeO (laws_FnExactNearAll.f k a0 a1 a2) (laws_FnExactNearAll.f (k + 1) a0 a1 a2) := by
  intro a0 a1 a2 k
  have ih0 := laws_FnExactNearAll.mono_l k
  unfold laws_FnExactNearAll.f
  repeat' first
      | (with_reducible exact ih0 _ _ _ _ _ _)
      | (with_reducible exact impl_NearAll.mono _ _ _ _)
      | (with_reducible exact laws_eqIntS.mono _ _ _)
      | (with_reducible exact laws_eqNet.mono _ _ _ _ _)
      | (with_reducible exact laws_heldIntS.mono _ _ _)
      | (with_reducible exact laws_markIntS.mono _ _ _)
      | (with_reducible exact laws_markNet.mono _ _ _ _)
      | (with_reducible exact laws_toNet.mono _ _ _)
      | (with_reducible exact spec_NearAll.mono _ _ _ _)
      | (with_reducible exact LeO.refl _)
      | (with_reducible exact LeO.none _)
      | (with_reducible refine LeO.ite ?_ ?_)
      | (with_reducible refine LeO.bind ?_ (fun _ => ?_))
      | exact ih0 _ _ _ _ _ _
      | exact impl_NearAll.mono _ _ _ _
      | exact laws_eqIntS.mono _ _ _
      | exact laws_eqNet.mono _ _ _ _ _
      | exact laws_heldIntS.mono _ _ _
      | exact laws_markIntS.mono _ _ _
      | exact laws_markNet.mono _ _ _ _
      | exact laws_toNet.mono _ _ _
      | exact spec_NearAll.mono _ _ _ _
      | exact LeO.none _
      | refine LeO.ite ?_ ?_
      | refine LeO.bind ?_ (fun _ => ?_)
set_option maxHeartbeats 8000000 in
set_option maxRecDepth 100000 in
theorem laws_FnExactNearAll.calls (k : Nat) (a0_0 : Int) (A0_1 : Option Addr) (c0_1 : Nat) (l0_1 : List (S84)) (a1 : Int) (r : Bool) (w : World) (hr0_1 : Kd.C k84 w A0_1 l0_1.length l0_1) (hc0_1 : l0_1.length ≤ c0_1) (h : laws_FnExactNearAll.f k a0_0 l0_1 a1 = some r) :
    Calls Try.prog 8 #[.agg #[.int .i64 a0_0, .slice A0_1 l0_1.length c0_1], .int .i64 a1] w fun e w' => e = .returned (.bool r) ∧ Below w.heap.size w w' := by
  have hu39 := Try.underlying39
  have hu25 := Try.underlying25
  have HR0_1 := Aside0.mk hr0_1
  have HC0_1 := Aside0.mk hc0_1
  clear hr0_1 hc0_1
  have HB := Aside0.mk (Below.refl w.heap.size w)
  have H : ((laws_szNet.f a0_0 l0_1 1048576).bind fun t626 => (if t626 < 0 then (some true) else ((laws_toNet.f k a0_0 l0_1).bind fun bt627 => ((spec_NearAll.f k bt627.1 bt627.2 a1).bind fun t631 => ((laws_toNet.f k a0_0 l0_1).bind fun bt634 => ((impl_NearAll.f k bt634.1 bt634.2 a1).bind fun t639 => ((laws_eqIntS.f k t639 t631).bind fun t642 => (if t642 = true then ((laws_toNet.f k a0_0 l0_1).bind fun bt643 => ((laws_eqNet.f k bt634.1 bt634.2 bt643.1 bt643.2).bind fun t647 => (if t647 = true then ((laws_markNet.f k bt634.1 bt634.2 1).bind fun bt648 => (if bt648.1 < 0 then (laws_FnExactNearAll.j0 k a1 t631 t639 true a0_0 l0_1) else ((laws_eqIntS.f k t639 t631).bind fun t650 => (laws_FnExactNearAll.j0 k a1 t631 t639 (!t650) a0_0 l0_1)))) else (some false)))) else (some false))))))))) = some r := h
  clear h
  replace H := Option.bind_eq_some_iff.mp H
  obtain ⟨t626, A30, H⟩ := H
  replace H : (if t626 < 0 then (some true) else ((laws_toNet.f k a0_0 l0_1).bind fun bt627 => ((spec_NearAll.f k bt627.1 bt627.2 a1).bind fun t631 => ((laws_toNet.f k a0_0 l0_1).bind fun bt634 => ((impl_NearAll.f k bt634.1 bt634.2 a1).bind fun t639 => ((laws_eqIntS.f k t639 t631).bind fun t642 => (if t642 = true then ((laws_toNet.f k a0_0 l0_1).bind fun bt643 => ((laws_eqNet.f k bt634.1 bt634.2 bt643.1 bt643.2).bind fun t647 => (if t647 = true then ((laws_markNet.f k bt634.1 bt634.2 1).bind fun bt648 => (if bt648.1 < 0 then (laws_FnExactNearAll.j0 k a1 t631 t639 true a0_0 l0_1) else ((laws_eqIntS.f k t639 t631).bind fun t650 => (laws_FnExactNearAll.j0 k a1 t631 t639 (!t650) a0_0 l0_1)))) else (some false)))) else (some false)))))))) = some r := H
  have A3 := Aside0.mk A30
  clear A30
  by_cases c4 : t626 < 0
  ·rw [if_pos c4] at H
   have c4b0 : decide (t626 < 0) = true := decide_eq_true c4
   clear c4
   obtain rfl := Option.some.inj H
   go_enter Try.func8, Try.ntmps8
   go_wp2_with (first | ((with_reducible refine gate_dst (N := 2) rfl ?_); refine box_event ?hg (N := 2) ?hd (cs := #[.int .i64 a0_0, .slice A0_1 l0_1.length c0_1]) (t := 39) ?hr ?_; (case hd => rfl); (case hg => rfl); (case hr => first | (go_simp; done) | (go_simp; rfl)); intro gb625 hg w5 hbox hb; have n0_ := Aside0.mk (eS8 (ne_ HB.out) hb); have n1_ := Aside0.mk (hbox); have n2_ := Aside0.mk ((by rw [hg]; exact (eZ8 (ne_ HB.out)) : w.heap.size ≤ gb625)); have n3_ := Aside0.mk ((by rw [hg]; exact (eZ8 (ne_ HB.out)) : w.heap.size ≤ gb625)); clear HB; have HB := n0_; have BK625 := n1_; have GW625 := n2_; have GE625 := n3_; clear n0_ n1_ n2_ n3_; clear hb hbox hg; have hcz6_0 : w5.cell? ⟨gb625, 0, none⟩ = some (.int .i64 a0_0) := (bC8 BK625.out 0).trans rfl; have hcz6_1 : w5.cell? ⟨gb625, 1, none⟩ = some (.slice A0_1 l0_1.length c0_1) := (bC8 BK625.out 1).trans rfl; have hfz6_0 := blk_frozen BK625.out 0; have hfz6_1 := blk_frozen BK625.out 1) | ((with_reducible refine gate_callee (f := 21) rfl ?_); refine goesL_ (some 15) rfl rfl Try.func21 (by kernel_rfl) rfl #[.agg #[.int .i64 a0_0, .slice A0_1 l0_1.length c0_1], .int .i64 1048576] rfl na_ ?_; (with_reducible refine (laws_szNet.calls a0_0 _ _ l0_1 1048576 t626 _ ?side1 ?side2 A3.out).mono ?_); (case side1 => exact nc_ (Kd.C_below HR0_1.out HB.out)); (case side2 => exact HC0_1.out); rintro e w7 ⟨rfl, hb⟩; refine ⟨_, rfl, ?_⟩; have n0_ := Aside0.mk (bB8 (g := gb625) (o := .cells #[.int .i64 a0_0, .slice A0_1 l0_1.length c0_1] 39 (0, 0)) (nb_ BK625.out) hb); have n1_ := Aside0.mk (eS8 (ne_ HB.out) hb); clear BK625; clear HB; have BK625 := n0_; have HB := n1_; clear n0_ n1_; (try clear hb); (try clear hb2); (try clear hk); (try clear hi)))
   go_ret
   exact ⟨by first | rfl | (simp [errW_none, errW_some] <;> rfl) | (simp [*, errW_none, errW_some] <;> rfl), by repeat (first | (with_reducible first | exact HB.out | apply below_alloc | apply eN8 | apply below_drew1 | refine bS8 ?_ GE625.out) | exact HB.out)⟩
  ·rw [if_neg c4] at H
   have c4b0 : decide (t626 < 0) = false := decide_eq_false c4
   clear c4
   replace H := Option.bind_eq_some_iff.mp H
   obtain ⟨⟨t627, t628⟩, A80, H⟩ := H
   replace H : ((spec_NearAll.f k t627 t628 a1).bind fun t631 => ((laws_toNet.f k a0_0 l0_1).bind fun bt634 => ((impl_NearAll.f k bt634.1 bt634.2 a1).bind fun t639 => ((laws_eqIntS.f k t639 t631).bind fun t642 => (if t642 = true then ((laws_toNet.f k a0_0 l0_1).bind fun bt643 => ((laws_eqNet.f k bt634.1 bt634.2 bt643.1 bt643.2).bind fun t647 => (if t647 = true then ((laws_markNet.f k bt634.1 bt634.2 1).bind fun bt648 => (if bt648.1 < 0 then (laws_FnExactNearAll.j0 k a1 t631 t639 true a0_0 l0_1) else ((laws_eqIntS.f k t639 t631).bind fun t650 => (laws_FnExactNearAll.j0 k a1 t631 t639 (!t650) a0_0 l0_1)))) else (some false)))) else (some false)))))) = some r := H
   have A8 := Aside0.mk A80
   clear A80
   replace H := Option.bind_eq_some_iff.mp H
   obtain ⟨t631, A90, H⟩ := H
   replace H : ((laws_toNet.f k a0_0 l0_1).bind fun bt634 => ((impl_NearAll.f k bt634.1 bt634.2 a1).bind fun t639 => ((laws_eqIntS.f k t639 t631).bind fun t642 => (if t642 = true then ((laws_toNet.f k a0_0 l0_1).bind fun bt643 => ((laws_eqNet.f k bt634.1 bt634.2 bt643.1 bt643.2).bind fun t647 => (if t647 = true then ((laws_markNet.f k bt634.1 bt634.2 1).bind fun bt648 => (if bt648.1 < 0 then (laws_FnExactNearAll.j0 k a1 t631 t639 true a0_0 l0_1) else ((laws_eqIntS.f k t639 t631).bind fun t650 => (laws_FnExactNearAll.j0 k a1 t631 t639 (!t650) a0_0 l0_1)))) else (some false)))) else (some false))))) = some r := H
   have A9 := Aside0.mk A90
   clear A90
   replace H := Option.bind_eq_some_iff.mp H
   obtain ⟨⟨t634, t635⟩, A100, H⟩ := H
   replace H : ((impl_NearAll.f k t634 t635 a1).bind fun t639 => ((laws_eqIntS.f k t639 t631).bind fun t642 => (if t642 = true then ((laws_toNet.f k a0_0 l0_1).bind fun bt643 => ((laws_eqNet.f k t634 t635 bt643.1 bt643.2).bind fun t647 => (if t647 = true then ((laws_markNet.f k t634 t635 1).bind fun bt648 => (if bt648.1 < 0 then (laws_FnExactNearAll.j0 k a1 t631 t639 true a0_0 l0_1) else ((laws_eqIntS.f k t639 t631).bind fun t650 => (laws_FnExactNearAll.j0 k a1 t631 t639 (!t650) a0_0 l0_1)))) else (some false)))) else (some false)))) = some r := H
   have A10 := Aside0.mk A100
   clear A100
   replace H := Option.bind_eq_some_iff.mp H
   obtain ⟨t639, A110, H⟩ := H
   replace H : ((laws_eqIntS.f k t639 t631).bind fun t642 => (if t642 = true then ((laws_toNet.f k a0_0 l0_1).bind fun bt643 => ((laws_eqNet.f k t634 t635 bt643.1 bt643.2).bind fun t647 => (if t647 = true then ((laws_markNet.f k t634 t635 1).bind fun bt648 => (if bt648.1 < 0 then (laws_FnExactNearAll.j0 k a1 t631 t639 true a0_0 l0_1) else ((laws_eqIntS.f k t639 t631).bind fun t650 => (laws_FnExactNearAll.j0 k a1 t631 t639 (!t650) a0_0 l0_1)))) else (some false)))) else (some false))) = some r := H
   have A11 := Aside0.mk A110
   clear A110
   replace H := Option.bind_eq_some_iff.mp H
   obtain ⟨t642, A120, H⟩ := H
   replace H : (if t642 = true then ((laws_toNet.f k a0_0 l0_1).bind fun bt643 => ((laws_eqNet.f k t634 t635 bt643.1 bt643.2).bind fun t647 => (if t647 = true then ((laws_markNet.f k t634 t635 1).bind fun bt648 => (if bt648.1 < 0 then (laws_FnExactNearAll.j0 k a1 t631 t639 true a0_0 l0_1) else ((laws_eqIntS.f k t639 t631).bind fun t650 => (laws_FnExactNearAll.j0 k a1 t631 t639 (!t650) a0_0 l0_1)))) else (some false)))) else (some false)) = some r := H
   have A12 := Aside0.mk A120
   clear A120
   by_cases c13 : t642 = true
   ·subst c13
    have H1 : ((laws_toNet.f k a0_0 l0_1).bind fun bt643 => ((laws_eqNet.f k t634 t635 bt643.1 bt643.2).bind fun t647 => (if t647 = true then ((laws_markNet.f k t634 t635 1).bind fun bt648 => (if bt648.1 < 0 then (laws_FnExactNearAll.j0 k a1 t631 t639 true a0_0 l0_1) else ((laws_eqIntS.f k t639 t631).bind fun t650 => (laws_FnExactNearAll.j0 k a1 t631 t639 (!t650) a0_0 l0_1)))) else (some false)))) = some r := by rw [if_pos rfl] at H; exact H
    clear H
    have H := H1
    clear H1
    replace H := Option.bind_eq_some_iff.mp H
    obtain ⟨⟨t643, t644⟩, A140, H⟩ := H
    replace H : ((laws_eqNet.f k t634 t635 t643 t644).bind fun t647 => (if t647 = true then ((laws_markNet.f k t634 t635 1).bind fun bt648 => (if bt648.1 < 0 then (laws_FnExactNearAll.j0 k a1 t631 t639 true a0_0 l0_1) else ((laws_eqIntS.f k t639 t631).bind fun t650 => (laws_FnExactNearAll.j0 k a1 t631 t639 (!t650) a0_0 l0_1)))) else (some false))) = some r := H
    have A14 := Aside0.mk A140
    clear A140
    replace H := Option.bind_eq_some_iff.mp H
    obtain ⟨t647, A150, H⟩ := H
    replace H : (if t647 = true then ((laws_markNet.f k t634 t635 1).bind fun bt648 => (if bt648.1 < 0 then (laws_FnExactNearAll.j0 k a1 t631 t639 true a0_0 l0_1) else ((laws_eqIntS.f k t639 t631).bind fun t650 => (laws_FnExactNearAll.j0 k a1 t631 t639 (!t650) a0_0 l0_1)))) else (some false)) = some r := H
    have A15 := Aside0.mk A150
    clear A150
    by_cases c16 : t647 = true
    ·subst c16
     have H1 : ((laws_markNet.f k t634 t635 1).bind fun bt648 => (if bt648.1 < 0 then (laws_FnExactNearAll.j0 k a1 t631 t639 true a0_0 l0_1) else ((laws_eqIntS.f k t639 t631).bind fun t650 => (laws_FnExactNearAll.j0 k a1 t631 t639 (!t650) a0_0 l0_1)))) = some r := by rw [if_pos rfl] at H; exact H
     clear H
     have H := H1
     clear H1
     replace H := Option.bind_eq_some_iff.mp H
     obtain ⟨⟨t648, t649⟩, A170, H⟩ := H
     replace H : (if t648 < 0 then (laws_FnExactNearAll.j0 k a1 t631 t639 true a0_0 l0_1) else ((laws_eqIntS.f k t639 t631).bind fun t650 => (laws_FnExactNearAll.j0 k a1 t631 t639 (!t650) a0_0 l0_1))) = some r := H
     have A17 := Aside0.mk A170
     clear A170
     have HC18 := Aside0.mk H
     clear H
     go_enter Try.func8, Try.ntmps8
     try go_wp2_with (first | ((with_reducible refine gate_dst (N := 2) rfl ?_); refine box_event ?hg (N := 2) ?hd (cs := #[.int .i64 a0_0, .slice A0_1 l0_1.length c0_1]) (t := 39) ?hr ?_; (case hd => rfl); (case hg => rfl); (case hr => first | (go_simp; done) | (go_simp; rfl)); intro gb625 hg w19 hbox hb; have n0_ := Aside0.mk (eS8 (ne_ HB.out) hb); have n1_ := Aside0.mk (hbox); have n2_ := Aside0.mk ((by rw [hg]; exact (eZ8 (ne_ HB.out)) : w.heap.size ≤ gb625)); have n3_ := Aside0.mk ((by rw [hg]; exact (eZ8 (ne_ HB.out)) : w.heap.size ≤ gb625)); clear HB; have HB := n0_; have BK625 := n1_; have GW625 := n2_; have GE625 := n3_; clear n0_ n1_ n2_ n3_; clear hb hbox hg; have hcz20_0 : w19.cell? ⟨gb625, 0, none⟩ = some (.int .i64 a0_0) := (bC8 BK625.out 0).trans rfl; have hcz20_1 : w19.cell? ⟨gb625, 1, none⟩ = some (.slice A0_1 l0_1.length c0_1) := (bC8 BK625.out 1).trans rfl; have hfz20_0 := blk_frozen BK625.out 0; have hfz20_1 := blk_frozen BK625.out 1) | ((with_reducible refine gate_callee (f := 21) rfl ?_); refine goesL_ (some 15) rfl rfl Try.func21 (by kernel_rfl) rfl #[.agg #[.int .i64 a0_0, .slice A0_1 l0_1.length c0_1], .int .i64 1048576] rfl na_ ?_; (with_reducible refine (laws_szNet.calls a0_0 _ _ l0_1 1048576 t626 _ ?side1 ?side2 A3.out).mono ?_); (case side1 => exact nc_ (Kd.C_below HR0_1.out HB.out)); (case side2 => exact HC0_1.out); rintro e w21 ⟨rfl, hb⟩; refine ⟨_, rfl, ?_⟩; have n0_ := Aside0.mk (bB8 (g := gb625) (o := .cells #[.int .i64 a0_0, .slice A0_1 l0_1.length c0_1] 39 (0, 0)) (nb_ BK625.out) hb); have n1_ := Aside0.mk (eS8 (ne_ HB.out) hb); clear BK625; clear HB; have BK625 := n0_; have HB := n1_; clear n0_ n1_; (try clear hb); (try clear hb2); (try clear hk); (try clear hi); have hcz22_0 : w21.cell? ⟨gb625, 0, none⟩ = some (.int .i64 a0_0) := (bC8 BK625.out 0).trans rfl; have hcz22_1 : w21.cell? ⟨gb625, 1, none⟩ = some (.slice A0_1 l0_1.length c0_1) := (bC8 BK625.out 1).trans rfl; have hfz22_0 := blk_frozen BK625.out 0; have hfz22_1 := blk_frozen BK625.out 1) | ((with_reducible refine gate_callee (f := 22) rfl ?_); refine goesL_ (some 19) rfl rfl Try.func22 (by kernel_rfl) rfl #[.agg #[.int .i64 a0_0, .slice A0_1 l0_1.length c0_1]] rfl na_ ?_; (with_reducible refine (laws_toNet.calls k a0_0 _ _ l0_1 t627 t628 _ ?side1 ?side2 A8.out).mono ?_); (case side1 => exact nc_ (Kd.C_below HR0_1.out HB.out)); (case side2 => exact HC0_1.out); rintro e w23 ⟨v629, rfl, ho0, hb⟩; refine ⟨_, rfl, ?_⟩; have n0_ := Aside0.mk (Kd.R_lower ho0 (eZ8 (ne_ HB.out))); have n1_ := Aside0.mk (bB8 (g := gb625) (o := .cells #[.int .i64 a0_0, .slice A0_1 l0_1.length c0_1] 39 (0, 0)) (nb_ BK625.out) hb); have n2_ := Aside0.mk (eS8 (ne_ HB.out) hb); clear BK625; clear HB; have HO630 := n0_; have BK625 := n1_; have HB := n2_; clear n0_ n1_ n2_; (try clear hb); (try clear hb2); (try clear hk); (try clear hi); (try clear ho0); obtain ⟨Ao24, co24, eo24⟩ := Kd.R_slice HO630.out; subst eo24) | ((with_reducible refine gate_callee (f := 16) rfl ?_); refine goesL_ (some 21) rfl rfl Try.func16 (by kernel_rfl) rfl #[.agg #[.int .i64 t627, .slice Ao24 t628.length co24], .int .i64 a1] rfl na_ ?_; (with_reducible refine (spec_NearAll.calls k t627 _ _ t628 a1 t631 _ ?side1 ?side2 A9.out).mono ?_); (case side1 => exact nc_ (rR8 HO630.out).2.2); (case side2 => exact (rR8 HO630.out).2.1); rintro e w25 ⟨v632, rfl, ho0, hb⟩; refine ⟨_, rfl, ?_⟩; have n0_ := Aside0.mk (rB8 (nr_ HO630.out) hb); have n1_ := Aside0.mk (Kd.R_lower ho0 (eZ8 (ne_ HB.out))); have n2_ := Aside0.mk (bB8 (g := gb625) (o := .cells #[.int .i64 a0_0, .slice A0_1 l0_1.length c0_1] 39 (0, 0)) (nb_ BK625.out) hb); have n3_ := Aside0.mk (eS8 (ne_ HB.out) hb); clear HO630; clear BK625; clear HB; have HO630 := n0_; have HO633 := n1_; have BK625 := n2_; have HB := n3_; clear n0_ n1_ n2_ n3_; (try clear hb); (try clear hb2); (try clear hk); (try clear hi); (try clear ho0); have hcz26_0 : w25.cell? ⟨gb625, 0, none⟩ = some (.int .i64 a0_0) := (bC8 BK625.out 0).trans rfl; have hcz26_1 : w25.cell? ⟨gb625, 1, none⟩ = some (.slice A0_1 l0_1.length c0_1) := (bC8 BK625.out 1).trans rfl; have hfz26_0 := blk_frozen BK625.out 0; have hfz26_1 := blk_frozen BK625.out 1) | ((with_reducible refine gate_callee (f := 22) rfl ?_); refine goesL_ (some 23) rfl rfl Try.func22 (by kernel_rfl) rfl #[.agg #[.int .i64 a0_0, .slice A0_1 l0_1.length c0_1]] rfl na_ ?_; (with_reducible refine (laws_toNet.calls k a0_0 _ _ l0_1 t634 t635 _ ?side1 ?side2 A10.out).mono ?_); (case side1 => exact nc_ (Kd.C_below HR0_1.out HB.out)); (case side2 => exact HC0_1.out); rintro e w27 ⟨v636, rfl, ho0, hb⟩; refine ⟨_, rfl, ?_⟩; have n0_ := Aside0.mk (Kd.R_elder' (nr_ HO630.out) (Kd.R_base ho0) hb); have n1_ := Aside0.mk (rB8 (nr_ HO633.out) hb); have n2_ := Aside0.mk (Kd.R_lower (Kd.R_new' ho0 (Kd.R_lt (nr_ HO630.out))) (eZ8 (ne_ HB.out))); have n3_ := Aside0.mk (bB8 (g := gb625) (o := .cells #[.int .i64 a0_0, .slice A0_1 l0_1.length c0_1] 39 (0, 0)) (nb_ BK625.out) hb); have n4_ := Aside0.mk (eS8 (ne_ HB.out) hb); clear HO630; clear HO633; clear BK625; clear HB; have HO630 := n0_; have HO633 := n1_; have HO637 := n2_; have BK625 := n3_; have HB := n4_; clear n0_ n1_ n2_ n3_ n4_; (try clear hb); (try clear hb2); (try clear hk); (try clear hi); (try clear ho0)) | ((with_reducible refine gate_dst (N := 7) rfl ?_); refine box_event ?hg (N := 7) ?hd (cs := #[.int .i64 0, .slice none 0 0]) (t := 25) ?hr ?_; (case hd => rfl); (case hg => rfl); (case hr => first | (go_simp; done) | (go_simp; rfl)); intro gb638 hg w28 hbox hb; have n0_ := Aside0.mk (rB8 (nr_ HO630.out) hb); have n1_ := Aside0.mk (rB8 (nr_ HO633.out) hb); have n2_ := Aside0.mk (rB8 (nr_ HO637.out) hb); have n3_ := Aside0.mk (bB8 (g := gb625) (o := .cells #[.int .i64 a0_0, .slice A0_1 l0_1.length c0_1] 39 (0, 0)) (nb_ BK625.out) hb); have n4_ := Aside0.mk (eS8 (ne_ HB.out) hb); have n5_ := Aside0.mk (hbox); have n6_ := Aside0.mk ((by rw [hg]; exact (eZ8 (ne_ HB.out)) : w.heap.size ≤ gb638)); have n7_ := Aside0.mk ((by rw [hg]; exact (eZ8 (ne_ HB.out)) : w.heap.size ≤ gb638)); have n8_ := Aside0.mk ((by rw [hg]; exact Nat.ne_of_lt (blk_lt (g := gb625) (o := .cells #[.int .i64 a0_0, .slice A0_1 l0_1.length c0_1] 39 (0, 0)) (nb_ BK625.out)) : gb625 ≠ gb638)); have n9_ := Aside0.mk ((by rw [hg]; exact Nat.ne_of_gt (blk_lt (g := gb625) (o := .cells #[.int .i64 a0_0, .slice A0_1 l0_1.length c0_1] 39 (0, 0)) (nb_ BK625.out)) : gb638 ≠ gb625)); clear HO630; clear HO633; clear HO637; clear BK625; clear HB; have HO630 := n0_; have HO633 := n1_; have HO637 := n2_; have BK625 := n3_; have HB := n4_; have BK638 := n5_; have GW638 := n6_; have GE638 := n7_; have NB625_638 := n8_; have NB638_625 := n9_; clear n0_ n1_ n2_ n3_ n4_ n5_ n6_ n7_ n8_ n9_; clear hb hbox hg; have hnb29 := NB638_625.out; have hnc29 := NB625_638.out; have hcz30_0 : w28.cell? ⟨gb638, 0, none⟩ = some (.int .i64 0) := (bC8 BK638.out 0).trans rfl; have hcz30_1 : w28.cell? ⟨gb638, 1, none⟩ = some (.slice none 0 0) := (bC8 BK638.out 1).trans rfl; have hfz30_0 := blk_frozen BK638.out 0; have hfz30_1 := blk_frozen BK638.out 1; obtain ⟨Ao31, co31, eo31⟩ := Kd.R_slice HO637.out; subst eo31) | ((with_reducible refine gate_callee (f := 14) rfl ?_); refine goesL_ (some 26) rfl rfl Try.func14 (by kernel_rfl) rfl #[.agg #[.int .i64 t634, .slice Ao31 t635.length co31], .int .i64 a1] rfl na_ ?_; (with_reducible refine (impl_NearAll.calls k t634 _ _ t635 a1 t639 _ ?side1 ?side2 A11.out).mono ?_); (case side1 => refine (rR8 (e := 33) (base := w.heap.size) (ok := fun k_ => (True ∧ some k_ ≠ (.slice Ao24 t628.length co24 : Value).ownBlock)) (n := t635.length) (c := co31) ?_).2.2; exact (by (with_reducible repeat (first | apply rA8 | apply rN8 | apply rD8)); exact (Kd.R_mono (Kd.R_far (p := ⟨gb638, 1, none⟩) (Kd.R_far (p := ⟨gb638, 0, none⟩) (Kd.R_types HO637.out BK638.out (by decide)) (fun _ hk => hk.2) (.int .i64 t634)) (fun _ hk => hk.2) (.slice Ao31 t635.length co31)) (fun _ h_ => h_.1)))); (case side2 => exact (rR8 HO637.out).2.1); rintro e w32 ⟨v640, rfl, ho0, hb⟩; refine ⟨_, rfl, ?_⟩; have n0_ := Aside0.mk (rB8 (by (with_reducible repeat (first | apply rA8 | apply rN8 | apply rD8)); exact (Kd.R_mono (Kd.R_far (p := ⟨gb638, 1, none⟩) (Kd.R_far (p := ⟨gb638, 0, none⟩) (Kd.R_types HO630.out BK638.out (by decide)) (fun _ hk => hk.2) (.int .i64 t634)) (fun _ hk => hk.2) (.slice Ao31 t635.length co31)) (fun _ h_ => h_.1))) hb); have n1_ := Aside0.mk (Kd.R_elder' (by (with_reducible repeat (first | apply rA8 | apply rN8 | apply rD8)); exact (Kd.R_mono (Kd.R_far (p := ⟨gb638, 1, none⟩) (Kd.R_far (p := ⟨gb638, 0, none⟩) (Kd.R_types HO633.out BK638.out (by decide)) (fun _ hk => hk.2) (.int .i64 t634)) (fun _ hk => hk.2) (.slice Ao31 t635.length co31)) (fun _ h_ => h_.1))) (Kd.R_base ho0) hb); have n2_ := Aside0.mk (rB8 (by (with_reducible repeat (first | apply rA8 | apply rN8 | apply rD8)); exact (Kd.R_mono (Kd.R_far (p := ⟨gb638, 1, none⟩) (Kd.R_far (p := ⟨gb638, 0, none⟩) (Kd.R_types HO637.out BK638.out (by decide)) (fun _ hk => hk.2) (.int .i64 t634)) (fun _ hk => hk.2) (.slice Ao31 t635.length co31)) (fun _ h_ => h_.1))) hb); have n3_ := Aside0.mk (Kd.R_lower (Kd.R_new' ho0 (Kd.R_lt (by (with_reducible repeat (first | apply rA8 | apply rN8 | apply rD8)); exact (Kd.R_mono (Kd.R_far (p := ⟨gb638, 1, none⟩) (Kd.R_far (p := ⟨gb638, 0, none⟩) (Kd.R_types HO633.out BK638.out (by decide)) (fun _ hk => hk.2) (.int .i64 t634)) (fun _ hk => hk.2) (.slice Ao31 t635.length co31)) (fun _ h_ => h_.1))))) (eZ8 (ne_ HB.out))); have n4_ := Aside0.mk (bB8 (g := gb625) (o := .cells #[.int .i64 a0_0, .slice A0_1 l0_1.length c0_1] 39 (0, 0)) (nbf_ BK625.out) hb); have n5_ := Aside0.mk (bB8 (g := gb638) (o := .cells #[.int .i64 t634, .slice Ao31 t635.length co31] 25 (0, 0)) (by (with_reducible repeat (first | refine blk_drewN ?_ _ | refine blk_drew ?_ | refine blk_alloc ?_ _)); refine blk_put (cs := #[.int .i64 t634, .slice none 0 0]) ?_ 1 _ rfl; (with_reducible repeat (first | refine blk_drewN ?_ _ | refine blk_drew ?_ | refine blk_alloc ?_ _)); refine blk_put (cs := #[.int .i64 0, .slice none 0 0]) ?_ 0 _ rfl; (with_reducible repeat (first | refine blk_drewN ?_ _ | refine blk_drew ?_ | refine blk_alloc ?_ _)); exact BK638.out) hb); have n6_ := Aside0.mk (eS8 (ne_ HB.out) hb); clear HO630; clear HO633; clear HO637; clear BK625; clear BK638; clear HB; have HO630 := n0_; have HO633 := n1_; have HO637 := n2_; have HO641 := n3_; have BK625 := n4_; have BK638 := n5_; have HB := n6_; clear n0_ n1_ n2_ n3_ n4_ n5_ n6_; (try clear hb); (try clear hb2); (try clear hk); (try clear hi); (try clear ho0); obtain ⟨Ao33, co33, eo33⟩ := Kd.R_slice HO641.out; subst eo33; obtain ⟨Ao34, co34, eo34⟩ := Kd.R_slice HO633.out; subst eo34) | ((with_reducible refine gate_callee (f := 23) rfl ?_); refine goesL_ (some 29) rfl rfl Try.func23 (by kernel_rfl) rfl #[.slice Ao33 t639.length co33, .slice Ao34 t631.length co34] rfl na_ ?_; (with_reducible refine (laws_eqIntS.calls k _ _ t639 _ _ t631 true _ ?side1 ?side2 ?side3 ?side4 A12.out).mono ?_); (case side1 => exact nc_ (rR8 HO641.out).2.2); (case side2 => exact (rR8 HO641.out).2.1); (case side3 => exact nc_ (rR8 HO633.out).2.2); (case side4 => exact (rR8 HO633.out).2.1); rintro e w' ⟨rfl, ⟨nd, rfl⟩⟩; refine ⟨_, rfl, ?_⟩))
     (first | (rw [drewN_self w32]; generalize hq_ : World.drewN w32 _ = w32; have n0_ : Aside0 (Kd.R k33 33 w32 w.heap.size (fun k_ => some k_ ≠ (.slice Ao31 t635.length co31 : Value).ownBlock) (.slice Ao24 t628.length co24) t628) := ⟨by rw [← hq_]; exact (by (with_reducible repeat (first | apply rA8 | apply rN8 | apply rD8)); exact Kd.R_mono HO630.out (fun _ hk => by first | exact hk.2 | trivial | simp_all))⟩; have n1_ : Aside0 (Kd.R (Kd.int .i64) 3 w32 w.heap.size (fun k_ => some k_ ≠ (.slice Ao33 t639.length co33 : Value).ownBlock) (.slice Ao34 t631.length co34) t631) := ⟨by rw [← hq_]; exact (by (with_reducible repeat (first | apply rA8 | apply rN8 | apply rD8)); exact Kd.R_mono HO633.out (fun _ hk => by first | exact hk.2 | trivial | simp_all))⟩; have n2_ : Aside0 (Kd.R k33 33 w32 w.heap.size (fun k_ => some k_ ≠ (.slice Ao24 t628.length co24 : Value).ownBlock) (.slice Ao31 t635.length co31) t635) := ⟨by rw [← hq_]; exact (by (with_reducible repeat (first | apply rA8 | apply rN8 | apply rD8)); exact Kd.R_mono HO637.out (fun _ hk => by first | exact hk.2 | trivial | simp_all))⟩; have n3_ : Aside0 (Kd.R (Kd.int .i64) 3 w32 w.heap.size (fun k_ => some k_ ≠ (.slice Ao34 t631.length co34 : Value).ownBlock) (.slice Ao33 t639.length co33) t639) := ⟨by rw [← hq_]; exact (by (with_reducible repeat (first | apply rA8 | apply rN8 | apply rD8)); exact Kd.R_mono HO641.out (fun _ hk => by first | exact hk.2 | trivial | simp_all))⟩; have n4_ : Aside0 (w32.heap[gb625]? = some (.cells #[.int .i64 a0_0, .slice A0_1 l0_1.length c0_1] 39 (0, 0))) := ⟨by rw [← hq_]; exact (nb_ BK625.out)⟩; have n5_ : Aside0 (w32.heap[gb638]? = some (.cells #[.int .i64 t634, .slice Ao31 t635.length co31] 25 (0, 0))) := ⟨by rw [← hq_]; exact (nb_ BK638.out)⟩; have n6_ : Aside0 (Below w.heap.size w w32) := ⟨by rw [← hq_]; exact (ne_ HB.out)⟩; clear HO630 HO633 HO637 HO641 BK625 BK638 HB hq_; have HO630 := n0_; have HO633 := n1_; have HO637 := n2_; have HO641 := n3_; have BK625 := n4_; have BK638 := n5_; have HB := n6_; clear n0_ n1_ n2_ n3_ n4_ n5_ n6_) | (have n0_ : Aside0 (Kd.R k33 33 w32 w.heap.size (fun k_ => some k_ ≠ (.slice Ao31 t635.length co31 : Value).ownBlock) (.slice Ao24 t628.length co24) t628) := ⟨(by (with_reducible repeat (first | apply rA8 | apply rN8 | apply rD8)); exact Kd.R_mono HO630.out (fun _ hk => by first | exact hk.2 | trivial | simp_all))⟩; have n1_ : Aside0 (Kd.R (Kd.int .i64) 3 w32 w.heap.size (fun k_ => some k_ ≠ (.slice Ao33 t639.length co33 : Value).ownBlock) (.slice Ao34 t631.length co34) t631) := ⟨(by (with_reducible repeat (first | apply rA8 | apply rN8 | apply rD8)); exact Kd.R_mono HO633.out (fun _ hk => by first | exact hk.2 | trivial | simp_all))⟩; have n2_ : Aside0 (Kd.R k33 33 w32 w.heap.size (fun k_ => some k_ ≠ (.slice Ao24 t628.length co24 : Value).ownBlock) (.slice Ao31 t635.length co31) t635) := ⟨(by (with_reducible repeat (first | apply rA8 | apply rN8 | apply rD8)); exact Kd.R_mono HO637.out (fun _ hk => by first | exact hk.2 | trivial | simp_all))⟩; have n3_ : Aside0 (Kd.R (Kd.int .i64) 3 w32 w.heap.size (fun k_ => some k_ ≠ (.slice Ao34 t631.length co34 : Value).ownBlock) (.slice Ao33 t639.length co33) t639) := ⟨(by (with_reducible repeat (first | apply rA8 | apply rN8 | apply rD8)); exact Kd.R_mono HO641.out (fun _ hk => by first | exact hk.2 | trivial | simp_all))⟩; have n4_ : Aside0 (w32.heap[gb625]? = some (.cells #[.int .i64 a0_0, .slice A0_1 l0_1.length c0_1] 39 (0, 0))) := ⟨(nb_ BK625.out)⟩; have n5_ : Aside0 (w32.heap[gb638]? = some (.cells #[.int .i64 t634, .slice Ao31 t635.length co31] 25 (0, 0))) := ⟨(nb_ BK638.out)⟩; have n6_ : Aside0 (Below w.heap.size w w32) := ⟨(ne_ HB.out)⟩; clear HO630 HO633 HO637 HO641 BK625 BK638 HB; have HO630 := n0_; have HO633 := n1_; have HO637 := n2_; have HO641 := n3_; have BK625 := n4_; have BK638 := n5_; have HB := n6_; clear n0_ n1_ n2_ n3_ n4_ n5_ n6_))
     have n0_ := Aside0.mk (rD8 HO630.out)
     have n1_ := Aside0.mk (rD8 HO633.out)
     have n2_ := Aside0.mk (rD8 HO637.out)
     have n3_ := Aside0.mk (rD8 HO641.out)
     have n4_ := Aside0.mk (blk_drew BK625.out)
     have n5_ := Aside0.mk (blk_drew BK638.out)
     have n6_ := Aside0.mk (below_drew1 HB.out)
     clear HO630
     clear HO633
     clear HO637
     clear HO641
     clear BK625
     clear BK638
     clear HB
     have HO630 := n0_
     have HO633 := n1_
     have HO637 := n2_
     have HO641 := n3_
     have BK625 := n4_
     have BK638 := n5_
     have HB := n6_
     clear n0_ n1_ n2_ n3_ n4_ n5_ n6_
     refine start_ (n := 5) (S := fun w' => w'.cell? ⟨gb638, 0, none⟩ = some (.int .i64 t634) ∧ w'.cell? ⟨gb638, 1, none⟩ = some (.slice Ao31 t635.length co31) ∧ w'.cell? ⟨gb625, 0, none⟩ = some (.int .i64 a0_0) ∧ w'.cell? ⟨gb625, 1, none⟩ = some (.slice A0_1 l0_1.length c0_1)) (ds := []) #[false, false, false, false, false] (by kernel_rfl) rfl rfl ⟨(bC8 BK638.out 0).trans rfl, (bC8 BK638.out 1).trans rfl, (bC8 BK625.out 0).trans rfl, (bC8 BK625.out 1).trans rfl⟩ (fun hHeld => ?_)
     generalize w32.drew = w35 at HO630 HO633 HO637 HO641 BK625 BK638 HB hHeld ⊢
     refine take_ (i := 0) (N := some 31) (v := ?_) (a' := ?_) #[true, false, false, false, false] rfl rfl (by kernel_rfl) (fun _ _ _ h => h) (Or.inl ⟨by rfl, ?_⟩) hHeld ?_ ?_
     rotate_left
     ·rintro w' ⟨s0, s1, s2, s3⟩
      go_simp
      with_reducible rfl
     rotate_left
     ·simp only [Act.put, List.setIfInBounds_toArray, List.set_cons_zero, List.set_cons_succ, i64_w, i32_w]
      rfl
     refine take_ (i := 1) (N := some 32) (v := ?_) (a' := ?_) #[true, true, false, false, false] rfl rfl (by kernel_rfl) (fun _ _ _ h => h) (Or.inl ⟨by rfl, ?_⟩) hHeld ?_ ?_
     rotate_left
     ·rintro w' ⟨s0, s1, s2, s3⟩
      go_simp
      with_reducible rfl
     rotate_left
     ·simp only [Act.put, List.setIfInBounds_toArray, List.set_cons_zero, List.set_cons_succ, i64_w, i32_w]
      rfl
     refine one_ (i := 2) (N := some 33) #[true, true, true, false, false] rfl rfl (by kernel_rfl) (by decide) (fun K hK => ?_)
     refine goes_ Try.func22 (by kernel_rfl) rfl #[.agg #[.int .i64 a0_0, .slice A0_1 l0_1.length c0_1]] (by rfl) rfl rfl na_ ?_
     with_reducible refine (laws_toNet.calls k a0_0 _ _ l0_1 t643 t644 _ ?side1 ?side2 A14.out).mono ?_
     (case side1 => exact nc_ (Kd.C_below HR0_1.out HB.out))
     (case side2 => exact HC0_1.out)
     rintro e w36 ⟨v645, rfl, ho0, hb⟩
     refine ⟨_, rfl, ?_⟩
     have n0_ := Aside0.mk (Kd.R_elder' (nr_ HO630.out) (Kd.R_base ho0) hb)
     have n1_ := Aside0.mk (rB8 (nr_ HO633.out) hb)
     have n2_ := Aside0.mk (Kd.R_elder' (nr_ HO637.out) (Kd.R_base ho0) hb)
     have n3_ := Aside0.mk (rB8 (nr_ HO641.out) hb)
     have n4_ := Aside0.mk (Kd.R_lower (Kd.R_new' (Kd.R_new' ho0 (Kd.R_lt (nr_ HO630.out))) (Kd.R_lt (nr_ HO637.out))) (eZ8 (ne_ HB.out)))
     have n5_ := Aside0.mk (bB8 (g := gb625) (o := .cells #[.int .i64 a0_0, .slice A0_1 l0_1.length c0_1] 39 (0, 0)) (nb_ BK625.out) hb)
     have n6_ := Aside0.mk (bB8 (g := gb638) (o := .cells #[.int .i64 t634, .slice Ao31 t635.length co31] 25 (0, 0)) (nb_ BK638.out) hb)
     have n7_ := Aside0.mk (eS8 (ne_ HB.out) hb)
     clear HO630
     clear HO633
     clear HO637
     clear HO641
     clear BK625
     clear BK638
     clear HB
     have HO630 := n0_
     have HO633 := n1_
     have HO637 := n2_
     have HO641 := n3_
     have HO646 := n4_
     have BK625 := n5_
     have BK638 := n6_
     have HB := n7_
     clear n0_ n1_ n2_ n3_ n4_ n5_ n6_ n7_
     (try clear hb)
     (try clear hb2)
     (try clear hk)
     (try clear hi)
     (try clear ho0)
     obtain ⟨Ao37, co37, eo37⟩ := Kd.R_slice HO646.out
     (first | subst eo37 | (injection eo37 with f1_ f2_ f3_; have f4_ := f1_.symm; have f5_ := f3_.symm; clear f1_ f2_ f3_; subst f4_; subst f5_))
     refine hK.out _ _ ⟨(bC8 BK638.out 0).trans rfl, (bC8 BK638.out 1).trans rfl, (bC8 BK625.out 0).trans rfl, (bC8 BK625.out 1).trans rfl⟩ (fun hHeld => ?_)
     clear hK K
     refine norm_ (a' := ?_) ?_ ?_
     rotate_left
     ·show Act.put _ (some 33) _ = _
      simp only [Act.put, List.setIfInBounds_toArray, List.set_cons_zero, List.set_cons_succ, i64_w, i32_w]
      rfl
     refine one_ (i := 3) (N := some 34) #[true, true, true, true, false] rfl rfl (by kernel_rfl) (by decide) (fun K hK => ?_)
     refine goes_ Try.func24 (by kernel_rfl) rfl #[.agg #[.int .i64 t634, .slice Ao31 t635.length co31], .agg #[.int .i64 t643, .slice Ao37 t644.length co37]] (by rfl) rfl rfl na_ ?_
     with_reducible refine (laws_eqNet.calls k t634 _ _ t635 t643 _ _ t644 true _ ?side1 ?side2 ?side3 ?side4 A15.out).mono ?_
     (case side1 => exact nc_ (rR8 HO637.out).2.2)
     (case side2 => exact (rR8 HO637.out).2.1)
     (case side3 => exact nc_ (rR8 HO646.out).2.2)
     (case side4 => exact (rR8 HO646.out).2.1)
     rintro e w38 ⟨rfl, hb⟩
     refine ⟨_, rfl, ?_⟩
     have n0_ := Aside0.mk (rB8 (nr_ HO630.out) hb)
     have n1_ := Aside0.mk (rB8 (nr_ HO633.out) hb)
     have n2_ := Aside0.mk (rB8 (nr_ HO637.out) hb)
     have n3_ := Aside0.mk (rB8 (nr_ HO641.out) hb)
     have n4_ := Aside0.mk (rB8 (nr_ HO646.out) hb)
     have n5_ := Aside0.mk (bB8 (g := gb625) (o := .cells #[.int .i64 a0_0, .slice A0_1 l0_1.length c0_1] 39 (0, 0)) (nb_ BK625.out) hb)
     have n6_ := Aside0.mk (bB8 (g := gb638) (o := .cells #[.int .i64 t634, .slice Ao31 t635.length co31] 25 (0, 0)) (nb_ BK638.out) hb)
     have n7_ := Aside0.mk (eS8 (ne_ HB.out) hb)
     clear HO630
     clear HO633
     clear HO637
     clear HO641
     clear HO646
     clear BK625
     clear BK638
     clear HB
     have HO630 := n0_
     have HO633 := n1_
     have HO637 := n2_
     have HO641 := n3_
     have HO646 := n4_
     have BK625 := n5_
     have BK638 := n6_
     have HB := n7_
     clear n0_ n1_ n2_ n3_ n4_ n5_ n6_ n7_
     (try clear hb)
     (try clear hb2)
     (try clear hk)
     (try clear hi)
     refine hK.out _ _ ⟨(bC8 BK638.out 0).trans rfl, (bC8 BK638.out 1).trans rfl, (bC8 BK625.out 0).trans rfl, (bC8 BK625.out 1).trans rfl⟩ (fun hHeld => ?_)
     clear hK K
     refine norm_ (a' := ?_) ?_ ?_
     rotate_left
     ·show Act.put _ (some 34) _ = _
      simp only [Act.put, List.setIfInBounds_toArray, List.set_cons_zero, List.set_cons_succ, i64_w, i32_w]
      rfl
     refine pure_ (i := 4) (N := some 35) (v := ?_) (a' := ?_) #[true, true, true, true, true] rfl rfl (by kernel_rfl) (fun _ _ _ h => h) (Or.inl ⟨by rfl, ?_⟩) ?_ ?_
     rotate_left
     ·intro w'
      go_simp
      with_reducible rfl
     rotate_left
     ·simp only [Act.put, List.setIfInBounds_toArray, List.set_cons_zero, List.set_cons_succ, i64_w, i32_w]
      rfl
     refine done_ (by kernel_rfl) ?_
     have hcz39_0 : w38.cell? ⟨gb638, 0, none⟩ = some (.int .i64 t634) := (bC8 BK638.out 0).trans rfl
     have hcz39_1 : w38.cell? ⟨gb638, 1, none⟩ = some (.slice Ao31 t635.length co31) := (bC8 BK638.out 1).trans rfl
     have hfz39_0 := blk_frozen BK638.out 0
     have hfz39_1 := blk_frozen BK638.out 1
     go_upto_region 14 with (first | ((with_reducible refine gate_callee (f := 25) rfl ?_); refine goesL_ (some 38) rfl rfl Try.func25 (by kernel_rfl) rfl #[.agg #[.int .i64 t634, .slice Ao31 t635.length co31], .int .i64 1] rfl na_ ?_; (with_reducible refine (laws_markNet.calls k t634 (fun k_ => some k_ = (.slice Ao31 t635.length co31 : Value).ownBlock) (.slice Ao31 t635.length co31) t635 1 t648 t649 w _ ?side1 ?side2 A17.out).mono ?_); (case side1 => repeat (first | (with_reducible first | exact HB.out | apply below_alloc | apply eN8 | apply below_drew1 | refine bS8 ?_ GE625.out | refine bS8 ?_ GE638.out) | exact HB.out)); (case side2 => exact Kd.R_tight rfl HO637.out); rintro e w40 ⟨rfl, hy0, hb, hkp⟩; refine ⟨_, rfl, ?_⟩; have n0_ := Aside0.mk (blk_kept (g := gb625) (o := .cells #[.int .i64 a0_0, .slice A0_1 l0_1.length c0_1] 39 (0, 0)) (nb_ BK625.out) hkp (fun hs_ => (fun e_ => (Kd.R_ne HO637.out BK625.out (by decide)) e_) hs_)); have n1_ := Aside0.mk (Kd.R_mono (ok' := fun k_ => some k_ ≠ (.slice Ao31 t635.length co31 : Value).ownBlock ∧ some k_ ≠ (.slice Ao37 t644.length co37 : Value).ownBlock) (Kd.R_keptB (HO630.out) hkp (fun k_ hk_ hs_ => (hk_.1) hs_)) (fun k_ hk_ => ⟨hk_.1.1, hk_.1.2⟩)); have n2_ := Aside0.mk (Kd.R_mono (ok' := fun k_ => some k_ ≠ (.slice Ao33 t639.length co33 : Value).ownBlock) (Kd.R_keptB ((Kd.R_apart' HO633.out (Kd.R_typed HO637.out) (by decide))) hkp (fun k_ hk_ hs_ => (hk_.2) hs_)) (fun k_ hk_ => hk_.1.1)); have n3_ := Aside0.mk (Kd.R_reok rfl hy0 (fun k_ e_ => HO637.out.1 k_ e_)); have n4_ := Aside0.mk (blk_kept (g := gb638) (o := .cells #[.int .i64 t634, .slice Ao31 t635.length co31] 25 (0, 0)) (nb_ BK638.out) hkp (fun hs_ => (fun e_ => (Kd.R_ne HO637.out BK638.out (by decide)) e_) hs_)); have n5_ := Aside0.mk (Kd.R_mono (ok' := fun k_ => some k_ ≠ (.slice Ao34 t631.length co34 : Value).ownBlock) (Kd.R_keptB ((Kd.R_apart' HO641.out (Kd.R_typed HO637.out) (by decide))) hkp (fun k_ hk_ hs_ => (hk_.2) hs_)) (fun k_ hk_ => hk_.1.1)); have n6_ := Aside0.mk (Kd.R_mono (ok' := fun k_ => some k_ ≠ (.slice Ao24 t628.length co24 : Value).ownBlock ∧ some k_ ≠ (.slice Ao31 t635.length co31 : Value).ownBlock) (Kd.R_keptB (HO646.out) hkp (fun k_ hk_ hs_ => (hk_.2) hs_)) (fun k_ hk_ => ⟨hk_.1.1.2, hk_.1.2⟩)); have n7_ := Aside0.mk (hb); clear BK625; clear HO630; clear HO633; clear HO637; clear BK638; clear HO641; clear HO646; clear HB; have BK625 := n0_; have HO630 := n1_; have HO633 := n2_; have HO637 := n3_; have BK638 := n4_; have HO641 := n5_; have HO646 := n6_; have HB := n7_; clear n0_ n1_ n2_ n3_ n4_ n5_ n6_ n7_; (try clear hb); (try clear hkp); (try clear hy0)))
     (try simp only [Act.put, List.setIfInBounds_toArray, List.set_cons_zero, List.set_cons_succ])
     go_cut [46] (fun v46 wc => ∃ (kq : Nat) (x46_17 : Bool), v46 = .bool x46_17 ∧ Aside0 (laws_FnExactNearAll.j0 kq a1 t631 t639 x46_17 a0_0 l0_1 = some r) ∧ Aside0 (kq ≤ k) ∧ Aside0 (Kd.R (Kd.int .i64) 3 wc w.heap.size (fun k_ => some k_ ≠ ((.slice Ao33 t639.length co33) : Value).ownBlock) (.slice Ao34 t631.length co34) t631) ∧ Aside0 (Kd.R (Kd.int .i64) 3 wc w.heap.size (fun k_ => some k_ ≠ ((.slice Ao34 t631.length co34) : Value).ownBlock) (.slice Ao33 t639.length co33) t639) ∧ Aside0 (Kd.R k33 33 wc w.heap.size (fun _ => True) (.slice Ao31 t635.length co31) t649) ∧ Aside0 (wc.heap[gb625]? = some (.cells #[.int .i64 a0_0, (.slice A0_1 l0_1.length c0_1)] 39 (0, 0))) ∧ Aside0 (wc.heap[gb638]? = some (.cells #[.int .i64 t634, (.slice Ao31 t635.length co31)] 25 (0, 0))) ∧ Aside0 (Below w.heap.size w wc))
     case first =>
      have H := HC18.out
      clear HC18
      by_cases c41 : t648 < 0
      ·rw [if_pos c41] at H
       have c41b0 : decide (t648 < 0) = true := decide_eq_true c41
       clear c41
       (first | rw [c41b0] | (simp only [i64_w, i32_w]; rw [c41b0]) | skip)
       have H' := Aside0.mk H
       clear H
       go_wp2
       go_meet
       case rel => exact ⟨_, (true), ns_, H', ⟨by first | omega | exact Nat.le_refl _⟩, ⟨by (with_reducible repeat (first | apply rA8 | apply rN8 | apply rD8)); exact HO633.out⟩, ⟨by (with_reducible repeat (first | apply rA8 | apply rN8 | apply rD8)); exact HO641.out⟩, ⟨by (with_reducible repeat (first | apply rA8 | apply rN8 | apply rD8)); exact Kd.R_mono HO637.out (fun _ hk => trivial)⟩, ⟨by (with_reducible repeat (first | refine blk_drewN ?_ _ | refine blk_drew ?_ | refine blk_alloc ?_ _)); exact BK625.out⟩, ⟨by (with_reducible repeat (first | refine blk_drewN ?_ _ | refine blk_drew ?_ | refine blk_alloc ?_ _)); exact BK638.out⟩, ⟨by repeat (first | (with_reducible first | exact HB.out | apply below_alloc | apply eN8 | apply below_drew1 | refine bS8 ?_ GE625.out | refine bS8 ?_ GE638.out) | exact HB.out)⟩⟩
      ·rw [if_neg c41] at H
       have c41b0 : decide (t648 < 0) = false := decide_eq_false c41
       clear c41
       (first | rw [c41b0] | (simp only [i64_w, i32_w]; rw [c41b0]) | skip)
       replace H := Option.bind_eq_some_iff.mp H
       obtain ⟨t650, A420, H⟩ := H
       replace H : (laws_FnExactNearAll.j0 k a1 t631 t639 (!t650) a0_0 l0_1) = some r := H
       have A42 := Aside0.mk A420
       clear A420
       have H' := Aside0.mk H
       clear H
       go_wp2_with (first | (go_at_call 23; (with_reducible refine (laws_eqIntS.calls k _ _ t639 _ _ t631 t650 _ ?side1 ?side2 ?side3 ?side4 A42.out).mono ?_); (case side1 => exact nc_ (rR8 HO641.out).2.2); (case side2 => exact (rR8 HO641.out).2.1); (case side3 => exact nc_ (rR8 HO633.out).2.2); (case side4 => exact (rR8 HO633.out).2.1); rintro e w' ⟨rfl, ⟨nd, rfl⟩⟩))
       go_meet
       case rel => exact ⟨_, (!t650), ns_, H', ⟨by first | omega | exact Nat.le_refl _⟩, ⟨by (with_reducible repeat (first | apply rA8 | apply rN8 | apply rD8)); exact HO633.out⟩, ⟨by (with_reducible repeat (first | apply rA8 | apply rN8 | apply rD8)); exact HO641.out⟩, ⟨by (with_reducible repeat (first | apply rA8 | apply rN8 | apply rD8)); exact Kd.R_mono HO637.out (fun _ hk => trivial)⟩, ⟨by (with_reducible repeat (first | refine blk_drewN ?_ _ | refine blk_drew ?_ | refine blk_alloc ?_ _)); exact BK625.out⟩, ⟨by (with_reducible repeat (first | refine blk_drewN ?_ _ | refine blk_drew ?_ | refine blk_alloc ?_ _)); exact BK638.out⟩, ⟨by repeat (first | (with_reducible first | exact HB.out | apply below_alloc | apply eN8 | apply below_drew1 | refine bS8 ?_ GE625.out | refine bS8 ?_ GE638.out) | exact HB.out)⟩⟩
     case rest =>
      clear HC18
      try clear c1
      try clear c2
      try clear p2
      try clear c4
      try clear c4b0
      try clear c8
      try clear c13
      try clear c14
      try clear c16
      try clear c21
      try clear c22
      try clear c23
      try clear c24
      try clear c25
      try clear c29
      try clear c41
      try clear c41b0
      try clear hcz20_0
      try clear hcz20_1
      try clear hcz22_0
      try clear hcz22_1
      try clear hcz26_0
      try clear hcz26_1
      try clear hcz30_0
      try clear hcz30_1
      try clear hcz39_0
      try clear hcz39_1
      try clear hcz6_0
      try clear hcz6_1
      try clear hfz20_0
      try clear hfz20_1
      try clear hfz22_0
      try clear hfz22_1
      try clear hfz26_0
      try clear hfz26_1
      try clear hfz30_0
      try clear hfz30_1
      try clear hfz39_0
      try clear hfz39_1
      try clear hfz6_0
      try clear hfz6_1
      obtain ⟨kq, x46_17, rfl, HA, HJ17, HO_6, HO_8, HO_639001, BK625, BK638, HB⟩ := hcut
      have hl639001_17 := (rR8 HO_639001.out).1
      rw [hl639001_17] at HO_639001
      (try simp only [hl639001_17])
      (try simp only [hl639001_17] at BK625)
      (try simp only [hl639001_17] at BK638)
      (try simp only [hl639001_17] at HO_6)
      (try simp only [hl639001_17] at HO_8)
      cases kq with
      | zero => exact absurd HA.out (by simp [laws_FnExactNearAll.j0])
      | succ kj17 =>
       have H := HA.out
       clear HA
       simp only [laws_FnExactNearAll.j0] at H
       by_cases c43 : x46_17 = true
       ·subst c43
        have H1 : (some false) = some r := by rw [if_pos rfl] at H; exact H
        clear H
        have H := H1
        clear H1
        obtain rfl := Option.some.inj H
        go_wp2
        go_ret
        exact ⟨by first | rfl | (simp [errW_none, errW_some] <;> rfl) | (simp [*, errW_none, errW_some] <;> rfl), by repeat (first | (with_reducible first | exact HB.out | apply below_alloc | apply eN8 | apply below_drew1 | refine bS8 ?_ GE625.out | refine bS8 ?_ GE638.out) | exact HB.out)⟩
       ·replace c43 := Bool.eq_false_iff.mpr c43
        subst c43
        have H1 : ((laws_markIntS.f kj17 t639 1).bind fun bt651 => ((laws_heldIntS.f kj17 bt651.2 1).bind fun t653 => (if t653 < 0 then (some false) else (if t653 = bt651.1 then ((laws_toNet.f kj17 a0_0 l0_1).bind fun bt654 => ((impl_NearAll.f kj17 bt654.1 bt654.2 a1).bind fun t658 => ((laws_eqIntS.f kj17 t658 t631).bind fun t661 => (if t661 = true then ((laws_heldIntS.f kj17 bt651.2 1).bind fun t662 => (if t662 < 0 then (some false) else (if t662 = bt651.1 then (some true) else (some false)))) else (some false))))) else (some false))))) = some r := by rw [if_neg (show ¬ (false = true) by decide)] at H; exact H
        clear H
        have H := H1
        clear H1
        replace H := Option.bind_eq_some_iff.mp H
        obtain ⟨⟨t651, t652⟩, A440, H⟩ := H
        replace H : ((laws_heldIntS.f kj17 t652 1).bind fun t653 => (if t653 < 0 then (some false) else (if t653 = t651 then ((laws_toNet.f kj17 a0_0 l0_1).bind fun bt654 => ((impl_NearAll.f kj17 bt654.1 bt654.2 a1).bind fun t658 => ((laws_eqIntS.f kj17 t658 t631).bind fun t661 => (if t661 = true then ((laws_heldIntS.f kj17 t652 1).bind fun t662 => (if t662 < 0 then (some false) else (if t662 = t651 then (some true) else (some false)))) else (some false))))) else (some false)))) = some r := H
        have A44 := Aside0.mk A440
        clear A440
        replace H := Option.bind_eq_some_iff.mp H
        obtain ⟨t653, A450, H⟩ := H
        replace H : (if t653 < 0 then (some false) else (if t653 = t651 then ((laws_toNet.f kj17 a0_0 l0_1).bind fun bt654 => ((impl_NearAll.f kj17 bt654.1 bt654.2 a1).bind fun t658 => ((laws_eqIntS.f kj17 t658 t631).bind fun t661 => (if t661 = true then ((laws_heldIntS.f kj17 t652 1).bind fun t662 => (if t662 < 0 then (some false) else (if t662 = t651 then (some true) else (some false)))) else (some false))))) else (some false))) = some r := H
        have A45 := Aside0.mk A450
        clear A450
        by_cases c46 : t653 < 0
        ·rw [if_pos c46] at H
         have c46b0 : decide (t653 < 0) = true := decide_eq_true c46
         clear c46
         obtain rfl := Option.some.inj H
         go_wp2_with (first | ((with_reducible refine gate_callee (f := 26) rfl ?_); refine goesL_ (some 49) rfl rfl Try.func26 (by kernel_rfl) rfl #[.slice Ao33 t639.length co33, .int .i64 1] rfl na_ ?_; (with_reducible refine (laws_markIntS.calls kj17 (fun k_ => some k_ = (.slice Ao33 t639.length co33 : Value).ownBlock) (.slice Ao33 t639.length co33) t639 1 t651 t652 w _ ?side1 ?side2 A44.out).mono ?_); (case side1 => repeat (first | (with_reducible first | exact HB.out | apply below_alloc | apply eN8 | apply below_drew1 | refine bS8 ?_ GE625.out | refine bS8 ?_ GE638.out) | exact HB.out)); (case side2 => exact Kd.R_tight rfl HO_8.out); rintro e w47 ⟨rfl, hy0, hb, hkp⟩; refine ⟨_, rfl, ?_⟩; have n0_ := Aside0.mk (Kd.R_mono (ok' := fun k_ => some k_ ≠ (.slice Ao33 t639.length co33 : Value).ownBlock) (Kd.R_keptB (HO_6.out) hkp (fun k_ hk_ hs_ => (hk_) hs_)) (fun k_ hk_ => hk_.1)); have n1_ := Aside0.mk (Kd.R_reok rfl hy0 (fun k_ e_ => HO_8.out.1 k_ e_)); have n2_ := Aside0.mk (Kd.R_mono (ok' := fun k_ => True) (Kd.R_keptB ((Kd.R_apart' HO_639001.out (Kd.R_typed HO_8.out) (by decide))) hkp (fun k_ hk_ hs_ => (hk_.2) hs_)) (fun k_ hk_ => trivial)); have n3_ := Aside0.mk (blk_kept (g := gb625) (o := .cells #[.int .i64 a0_0, .slice A0_1 l0_1.length c0_1] 39 (0, 0)) (nb_ BK625.out) hkp (fun hs_ => (fun e_ => (Kd.R_ne HO_8.out BK625.out (by decide)) e_) hs_)); have n4_ := Aside0.mk (blk_kept (g := gb638) (o := .cells #[.int .i64 t634, .slice Ao31 t649.length co31] 25 (0, 0)) (nb_ BK638.out) hkp (fun hs_ => (fun e_ => (Kd.R_ne HO_8.out BK638.out (by decide)) e_) hs_)); have n5_ := Aside0.mk (hb); clear HO_6; clear HO_8; clear HO_639001; clear BK625; clear BK638; clear HB; have HO_6 := n0_; have HO_8 := n1_; have HO_639001 := n2_; have BK625 := n3_; have BK638 := n4_; have HB := n5_; clear n0_ n1_ n2_ n3_ n4_ n5_; (try clear hb); (try clear hkp); (try clear hy0)) | ((with_reducible refine gate_callee (f := 27) rfl ?_); refine goesL_ (some 52) rfl rfl Try.func27 (by kernel_rfl) rfl #[.slice Ao33 t652.length co33, .int .i64 1] rfl (by (try simp only [List.map_toArray, List.map_cons, List.map_nil]); first | done | (rw [show t652.length = t639.length from (rR8 HO_8.out).1.symm] <;> rfl) | rfl | (simp only [List.length_drop, List.length_take]; rfl)) ?_; (with_reducible refine (laws_heldIntS.calls kj17 _ _ t652 1 t653 _ ?side1 ?side2 A45.out).mono ?_); (case side1 => exact nc_ (rR8 HO_8.out).2.2); (case side2 => rw [show t652.length = t639.length from (rR8 HO_8.out).1.symm]; exact (rR8 HO_8.out).2.1); rintro e w' ⟨rfl, ⟨nd, rfl⟩⟩; refine ⟨_, rfl, ?_⟩))
         go_ret
         exact ⟨by first | rfl | (simp [errW_none, errW_some] <;> rfl) | (simp [*, errW_none, errW_some] <;> rfl), by repeat (first | (with_reducible first | exact HB.out | apply below_alloc | apply eN8 | apply below_drew1 | refine bS8 ?_ GE625.out | refine bS8 ?_ GE638.out) | exact HB.out)⟩
        ·rw [if_neg c46] at H
         have c46b0 : decide (t653 < 0) = false := decide_eq_false c46
         clear c46
         by_cases c48 : t653 = t651
         ·rw [if_pos c48] at H
          have c48b0 : (t653 == t651) = true := beq_iff_eq.mpr c48
          have c48b1 : (t653 != t651) = false := bne_eq_false_iff_eq.mpr c48
          clear c48
          replace H := Option.bind_eq_some_iff.mp H
          obtain ⟨⟨t654, t655⟩, A490, H⟩ := H
          replace H : ((impl_NearAll.f kj17 t654 t655 a1).bind fun t658 => ((laws_eqIntS.f kj17 t658 t631).bind fun t661 => (if t661 = true then ((laws_heldIntS.f kj17 t652 1).bind fun t662 => (if t662 < 0 then (some false) else (if t662 = t651 then (some true) else (some false)))) else (some false)))) = some r := H
          have A49 := Aside0.mk A490
          clear A490
          replace H := Option.bind_eq_some_iff.mp H
          obtain ⟨t658, A500, H⟩ := H
          replace H : ((laws_eqIntS.f kj17 t658 t631).bind fun t661 => (if t661 = true then ((laws_heldIntS.f kj17 t652 1).bind fun t662 => (if t662 < 0 then (some false) else (if t662 = t651 then (some true) else (some false)))) else (some false))) = some r := H
          have A50 := Aside0.mk A500
          clear A500
          replace H := Option.bind_eq_some_iff.mp H
          obtain ⟨t661, A510, H⟩ := H
          replace H : (if t661 = true then ((laws_heldIntS.f kj17 t652 1).bind fun t662 => (if t662 < 0 then (some false) else (if t662 = t651 then (some true) else (some false)))) else (some false)) = some r := H
          have A51 := Aside0.mk A510
          clear A510
          by_cases c52 : t661 = true
          ·subst c52
           have H1 : ((laws_heldIntS.f kj17 t652 1).bind fun t662 => (if t662 < 0 then (some false) else (if t662 = t651 then (some true) else (some false)))) = some r := by rw [if_pos rfl] at H; exact H
           clear H
           have H := H1
           clear H1
           replace H := Option.bind_eq_some_iff.mp H
           obtain ⟨t662, A530, H⟩ := H
           replace H : (if t662 < 0 then (some false) else (if t662 = t651 then (some true) else (some false))) = some r := H
           have A53 := Aside0.mk A530
           clear A530
           by_cases c54 : t662 < 0
           ·rw [if_pos c54] at H
            have c54b0 : decide (t662 < 0) = true := decide_eq_true c54
            clear c54
            obtain rfl := Option.some.inj H
            go_wp2_with (first | ((with_reducible refine gate_callee (f := 26) rfl ?_); refine goesL_ (some 49) rfl rfl Try.func26 (by kernel_rfl) rfl #[.slice Ao33 t639.length co33, .int .i64 1] rfl na_ ?_; (with_reducible refine (laws_markIntS.calls kj17 (fun k_ => some k_ = (.slice Ao33 t639.length co33 : Value).ownBlock) (.slice Ao33 t639.length co33) t639 1 t651 t652 w _ ?side1 ?side2 A44.out).mono ?_); (case side1 => repeat (first | (with_reducible first | exact HB.out | apply below_alloc | apply eN8 | apply below_drew1 | refine bS8 ?_ GE625.out | refine bS8 ?_ GE638.out) | exact HB.out)); (case side2 => exact Kd.R_tight rfl HO_8.out); rintro e w55 ⟨rfl, hy0, hb, hkp⟩; refine ⟨_, rfl, ?_⟩; have n0_ := Aside0.mk (Kd.R_mono (ok' := fun k_ => some k_ ≠ (.slice Ao33 t639.length co33 : Value).ownBlock) (Kd.R_keptB (HO_6.out) hkp (fun k_ hk_ hs_ => (hk_) hs_)) (fun k_ hk_ => hk_.1)); have n1_ := Aside0.mk (Kd.R_reok rfl hy0 (fun k_ e_ => HO_8.out.1 k_ e_)); have n2_ := Aside0.mk (Kd.R_mono (ok' := fun k_ => True) (Kd.R_keptB ((Kd.R_apart' HO_639001.out (Kd.R_typed HO_8.out) (by decide))) hkp (fun k_ hk_ hs_ => (hk_.2) hs_)) (fun k_ hk_ => trivial)); have n3_ := Aside0.mk (blk_kept (g := gb625) (o := .cells #[.int .i64 a0_0, .slice A0_1 l0_1.length c0_1] 39 (0, 0)) (nb_ BK625.out) hkp (fun hs_ => (fun e_ => (Kd.R_ne HO_8.out BK625.out (by decide)) e_) hs_)); have n4_ := Aside0.mk (blk_kept (g := gb638) (o := .cells #[.int .i64 t634, .slice Ao31 t649.length co31] 25 (0, 0)) (nb_ BK638.out) hkp (fun hs_ => (fun e_ => (Kd.R_ne HO_8.out BK638.out (by decide)) e_) hs_)); have n5_ := Aside0.mk (hb); clear HO_6; clear HO_8; clear HO_639001; clear BK625; clear BK638; clear HB; have HO_6 := n0_; have HO_8 := n1_; have HO_639001 := n2_; have BK625 := n3_; have BK638 := n4_; have HB := n5_; clear n0_ n1_ n2_ n3_ n4_ n5_; (try clear hb); (try clear hkp); (try clear hy0)) | ((with_reducible refine gate_callee (f := 27) rfl ?_); refine goesL_ (some 52) rfl rfl Try.func27 (by kernel_rfl) rfl #[.slice Ao33 t652.length co33, .int .i64 1] rfl (by (try simp only [List.map_toArray, List.map_cons, List.map_nil]); first | done | (rw [show t652.length = t639.length from (rR8 HO_8.out).1.symm] <;> rfl) | rfl | (simp only [List.length_drop, List.length_take]; rfl)) ?_; (with_reducible refine (laws_heldIntS.calls kj17 _ _ t652 1 t653 _ ?side1 ?side2 A45.out).mono ?_); (case side1 => exact nc_ (rR8 HO_8.out).2.2); (case side2 => rw [show t652.length = t639.length from (rR8 HO_8.out).1.symm]; exact (rR8 HO_8.out).2.1); rintro e w' ⟨rfl, ⟨nd, rfl⟩⟩; refine ⟨_, rfl, ?_⟩; have hnb56 := NB625_638.out; have hnc56 := NB638_625.out; have hcz57_0 : w55.cell? ⟨gb625, 0, none⟩ = some (.int .i64 a0_0) := (bC8 BK625.out 0).trans rfl; have hcz57_1 : w55.cell? ⟨gb625, 1, none⟩ = some (.slice A0_1 l0_1.length c0_1) := (bC8 BK625.out 1).trans rfl; have hfz57_0 := blk_frozen BK625.out 0; have hfz57_1 := blk_frozen BK625.out 1) | ((with_reducible refine gate_callee (f := 22) rfl ?_); refine goesL_ (some 59) rfl rfl Try.func22 (by kernel_rfl) rfl #[.agg #[.int .i64 a0_0, .slice A0_1 l0_1.length c0_1]] rfl na_ ?_; (with_reducible refine (laws_toNet.calls kj17 a0_0 _ _ l0_1 t654 t655 _ ?side1 ?side2 A49.out).mono ?_); (case side1 => exact nc_ (Kd.C_below HR0_1.out (ne_ HB.out))); (case side2 => exact HC0_1.out); rintro e w58 ⟨v656, rfl, ho0, hb⟩; refine ⟨_, rfl, ?_⟩; have n0_ := Aside0.mk (rB8 (nr_ HO_6.out) hb); have n1_ := Aside0.mk (rB8 (nr_ HO_8.out) hb); have n2_ := Aside0.mk (Kd.R_elder' (nr_ HO_639001.out) (Kd.R_base ho0) hb); have n3_ := Aside0.mk (Kd.R_lower (Kd.R_new' ho0 (Kd.R_lt (nr_ HO_639001.out))) (eZ8 (ne_ HB.out))); have n4_ := Aside0.mk (bB8 (g := gb625) (o := .cells #[.int .i64 a0_0, .slice A0_1 l0_1.length c0_1] 39 (0, 0)) (nb_ BK625.out) hb); have n5_ := Aside0.mk (bB8 (g := gb638) (o := .cells #[.int .i64 t634, .slice Ao31 t649.length co31] 25 (0, 0)) (nb_ BK638.out) hb); have n6_ := Aside0.mk (eS8 (ne_ HB.out) hb); clear HO_6; clear HO_8; clear HO_639001; clear BK625; clear BK638; clear HB; have HO_6 := n0_; have HO_8 := n1_; have HO_639001 := n2_; have HO657 := n3_; have BK625 := n4_; have BK638 := n5_; have HB := n6_; clear n0_ n1_ n2_ n3_ n4_ n5_ n6_; (try clear hb); (try clear hb2); (try clear hk); (try clear hi); (try clear ho0); obtain ⟨Ao59, co59, eo59⟩ := Kd.R_slice HO657.out; subst eo59) | ((with_reducible refine gate_callee (f := 14) rfl ?_); refine goesL_ (some 61) rfl rfl Try.func14 (by kernel_rfl) rfl #[.agg #[.int .i64 t654, .slice Ao59 t655.length co59], .int .i64 a1] rfl na_ ?_; (with_reducible refine (impl_NearAll.calls kj17 t654 _ _ t655 a1 t658 _ ?side1 ?side2 A50.out).mono ?_); (case side1 => exact nc_ (rR8 HO657.out).2.2); (case side2 => exact (rR8 HO657.out).2.1); rintro e w60 ⟨v659, rfl, ho0, hb⟩; refine ⟨_, rfl, ?_⟩; have n0_ := Aside0.mk (Kd.R_elder' (nr_ HO_6.out) (Kd.R_base ho0) hb); have n1_ := Aside0.mk (Kd.R_elder' (nr_ HO_8.out) (Kd.R_base ho0) hb); have n2_ := Aside0.mk (rB8 (nr_ HO_639001.out) hb); have n3_ := Aside0.mk (rB8 (nr_ HO657.out) hb); have n4_ := Aside0.mk (Kd.R_lower (Kd.R_new' (Kd.R_new' ho0 (Kd.R_lt (nr_ HO_6.out))) (Kd.R_lt (nr_ HO_8.out))) (eZ8 (ne_ HB.out))); have n5_ := Aside0.mk (bB8 (g := gb625) (o := .cells #[.int .i64 a0_0, .slice A0_1 l0_1.length c0_1] 39 (0, 0)) (nb_ BK625.out) hb); have n6_ := Aside0.mk (bB8 (g := gb638) (o := .cells #[.int .i64 t634, .slice Ao31 t649.length co31] 25 (0, 0)) (nb_ BK638.out) hb); have n7_ := Aside0.mk (eS8 (ne_ HB.out) hb); clear HO_6; clear HO_8; clear HO_639001; clear HO657; clear BK625; clear BK638; clear HB; have HO_6 := n0_; have HO_8 := n1_; have HO_639001 := n2_; have HO657 := n3_; have HO660 := n4_; have BK625 := n5_; have BK638 := n6_; have HB := n7_; clear n0_ n1_ n2_ n3_ n4_ n5_ n6_ n7_; (try clear hb); (try clear hb2); (try clear hk); (try clear hi); (try clear ho0); obtain ⟨Ao61, co61, eo61⟩ := Kd.R_slice HO660.out; subst eo61) | ((with_reducible refine gate_callee (f := 23) rfl ?_); refine goesL_ (some 64) rfl rfl Try.func23 (by kernel_rfl) rfl #[.slice Ao61 t658.length co61, .slice Ao34 t631.length co34] rfl na_ ?_; (with_reducible refine (laws_eqIntS.calls kj17 _ _ t658 _ _ t631 true _ ?side1 ?side2 ?side3 ?side4 A51.out).mono ?_); (case side1 => exact nc_ (rR8 HO660.out).2.2); (case side2 => exact (rR8 HO660.out).2.1); (case side3 => exact nc_ (rR8 HO_6.out).2.2); (case side4 => exact (rR8 HO_6.out).2.1); rintro e w' ⟨rfl, ⟨nd, rfl⟩⟩; refine ⟨_, rfl, ?_⟩) | ((with_reducible refine gate_callee (f := 27) rfl ?_); refine goesL_ (some 68) rfl rfl Try.func27 (by kernel_rfl) rfl #[.slice Ao33 t652.length co33, .int .i64 1] rfl (by (try simp only [List.map_toArray, List.map_cons, List.map_nil]); first | done | (rw [show t652.length = t639.length from (rR8 HO_8.out).1.symm] <;> rfl) | rfl | (simp only [List.length_drop, List.length_take]; rfl)) ?_; (with_reducible refine (laws_heldIntS.calls kj17 _ _ t652 1 t662 _ ?side1 ?side2 A53.out).mono ?_); (case side1 => exact nc_ (rR8 HO_8.out).2.2); (case side2 => rw [show t652.length = t639.length from (rR8 HO_8.out).1.symm]; exact (rR8 HO_8.out).2.1); rintro e w' ⟨rfl, ⟨nd, rfl⟩⟩; refine ⟨_, rfl, ?_⟩))
            go_ret
            exact ⟨by first | rfl | (simp [errW_none, errW_some] <;> rfl) | (simp [*, errW_none, errW_some] <;> rfl), by repeat (first | (with_reducible first | exact HB.out | apply below_alloc | apply eN8 | apply below_drew1 | refine bS8 ?_ GE625.out | refine bS8 ?_ GE638.out) | exact HB.out)⟩
           ·rw [if_neg c54] at H
            have c54b0 : decide (t662 < 0) = false := decide_eq_false c54
            clear c54
            by_cases c62 : t662 = t651
            ·rw [if_pos c62] at H
             have c62b0 : (t662 == t651) = true := beq_iff_eq.mpr c62
             have c62b1 : (t662 != t651) = false := bne_eq_false_iff_eq.mpr c62
             clear c62
             obtain rfl := Option.some.inj H
             go_wp2_with (first | ((with_reducible refine gate_callee (f := 26) rfl ?_); refine goesL_ (some 49) rfl rfl Try.func26 (by kernel_rfl) rfl #[.slice Ao33 t639.length co33, .int .i64 1] rfl na_ ?_; (with_reducible refine (laws_markIntS.calls kj17 (fun k_ => some k_ = (.slice Ao33 t639.length co33 : Value).ownBlock) (.slice Ao33 t639.length co33) t639 1 t651 t652 w _ ?side1 ?side2 A44.out).mono ?_); (case side1 => repeat (first | (with_reducible first | exact HB.out | apply below_alloc | apply eN8 | apply below_drew1 | refine bS8 ?_ GE625.out | refine bS8 ?_ GE638.out) | exact HB.out)); (case side2 => exact Kd.R_tight rfl HO_8.out); rintro e w63 ⟨rfl, hy0, hb, hkp⟩; refine ⟨_, rfl, ?_⟩; have n0_ := Aside0.mk (Kd.R_mono (ok' := fun k_ => some k_ ≠ (.slice Ao33 t639.length co33 : Value).ownBlock) (Kd.R_keptB (HO_6.out) hkp (fun k_ hk_ hs_ => (hk_) hs_)) (fun k_ hk_ => hk_.1)); have n1_ := Aside0.mk (Kd.R_reok rfl hy0 (fun k_ e_ => HO_8.out.1 k_ e_)); have n2_ := Aside0.mk (Kd.R_mono (ok' := fun k_ => True) (Kd.R_keptB ((Kd.R_apart' HO_639001.out (Kd.R_typed HO_8.out) (by decide))) hkp (fun k_ hk_ hs_ => (hk_.2) hs_)) (fun k_ hk_ => trivial)); have n3_ := Aside0.mk (blk_kept (g := gb625) (o := .cells #[.int .i64 a0_0, .slice A0_1 l0_1.length c0_1] 39 (0, 0)) (nb_ BK625.out) hkp (fun hs_ => (fun e_ => (Kd.R_ne HO_8.out BK625.out (by decide)) e_) hs_)); have n4_ := Aside0.mk (blk_kept (g := gb638) (o := .cells #[.int .i64 t634, .slice Ao31 t649.length co31] 25 (0, 0)) (nb_ BK638.out) hkp (fun hs_ => (fun e_ => (Kd.R_ne HO_8.out BK638.out (by decide)) e_) hs_)); have n5_ := Aside0.mk (hb); clear HO_6; clear HO_8; clear HO_639001; clear BK625; clear BK638; clear HB; have HO_6 := n0_; have HO_8 := n1_; have HO_639001 := n2_; have BK625 := n3_; have BK638 := n4_; have HB := n5_; clear n0_ n1_ n2_ n3_ n4_ n5_; (try clear hb); (try clear hkp); (try clear hy0)) | ((with_reducible refine gate_callee (f := 27) rfl ?_); refine goesL_ (some 52) rfl rfl Try.func27 (by kernel_rfl) rfl #[.slice Ao33 t652.length co33, .int .i64 1] rfl (by (try simp only [List.map_toArray, List.map_cons, List.map_nil]); first | done | (rw [show t652.length = t639.length from (rR8 HO_8.out).1.symm] <;> rfl) | rfl | (simp only [List.length_drop, List.length_take]; rfl)) ?_; (with_reducible refine (laws_heldIntS.calls kj17 _ _ t652 1 t653 _ ?side1 ?side2 A45.out).mono ?_); (case side1 => exact nc_ (rR8 HO_8.out).2.2); (case side2 => rw [show t652.length = t639.length from (rR8 HO_8.out).1.symm]; exact (rR8 HO_8.out).2.1); rintro e w' ⟨rfl, ⟨nd, rfl⟩⟩; refine ⟨_, rfl, ?_⟩; have hnb64 := NB625_638.out; have hnc64 := NB638_625.out; have hcz65_0 : w63.cell? ⟨gb625, 0, none⟩ = some (.int .i64 a0_0) := (bC8 BK625.out 0).trans rfl; have hcz65_1 : w63.cell? ⟨gb625, 1, none⟩ = some (.slice A0_1 l0_1.length c0_1) := (bC8 BK625.out 1).trans rfl; have hfz65_0 := blk_frozen BK625.out 0; have hfz65_1 := blk_frozen BK625.out 1) | ((with_reducible refine gate_callee (f := 22) rfl ?_); refine goesL_ (some 59) rfl rfl Try.func22 (by kernel_rfl) rfl #[.agg #[.int .i64 a0_0, .slice A0_1 l0_1.length c0_1]] rfl na_ ?_; (with_reducible refine (laws_toNet.calls kj17 a0_0 _ _ l0_1 t654 t655 _ ?side1 ?side2 A49.out).mono ?_); (case side1 => exact nc_ (Kd.C_below HR0_1.out (ne_ HB.out))); (case side2 => exact HC0_1.out); rintro e w66 ⟨v656, rfl, ho0, hb⟩; refine ⟨_, rfl, ?_⟩; have n0_ := Aside0.mk (rB8 (nr_ HO_6.out) hb); have n1_ := Aside0.mk (rB8 (nr_ HO_8.out) hb); have n2_ := Aside0.mk (Kd.R_elder' (nr_ HO_639001.out) (Kd.R_base ho0) hb); have n3_ := Aside0.mk (Kd.R_lower (Kd.R_new' ho0 (Kd.R_lt (nr_ HO_639001.out))) (eZ8 (ne_ HB.out))); have n4_ := Aside0.mk (bB8 (g := gb625) (o := .cells #[.int .i64 a0_0, .slice A0_1 l0_1.length c0_1] 39 (0, 0)) (nb_ BK625.out) hb); have n5_ := Aside0.mk (bB8 (g := gb638) (o := .cells #[.int .i64 t634, .slice Ao31 t649.length co31] 25 (0, 0)) (nb_ BK638.out) hb); have n6_ := Aside0.mk (eS8 (ne_ HB.out) hb); clear HO_6; clear HO_8; clear HO_639001; clear BK625; clear BK638; clear HB; have HO_6 := n0_; have HO_8 := n1_; have HO_639001 := n2_; have HO657 := n3_; have BK625 := n4_; have BK638 := n5_; have HB := n6_; clear n0_ n1_ n2_ n3_ n4_ n5_ n6_; (try clear hb); (try clear hb2); (try clear hk); (try clear hi); (try clear ho0); obtain ⟨Ao67, co67, eo67⟩ := Kd.R_slice HO657.out; subst eo67) | ((with_reducible refine gate_callee (f := 14) rfl ?_); refine goesL_ (some 61) rfl rfl Try.func14 (by kernel_rfl) rfl #[.agg #[.int .i64 t654, .slice Ao67 t655.length co67], .int .i64 a1] rfl na_ ?_; (with_reducible refine (impl_NearAll.calls kj17 t654 _ _ t655 a1 t658 _ ?side1 ?side2 A50.out).mono ?_); (case side1 => exact nc_ (rR8 HO657.out).2.2); (case side2 => exact (rR8 HO657.out).2.1); rintro e w68 ⟨v659, rfl, ho0, hb⟩; refine ⟨_, rfl, ?_⟩; have n0_ := Aside0.mk (Kd.R_elder' (nr_ HO_6.out) (Kd.R_base ho0) hb); have n1_ := Aside0.mk (Kd.R_elder' (nr_ HO_8.out) (Kd.R_base ho0) hb); have n2_ := Aside0.mk (rB8 (nr_ HO_639001.out) hb); have n3_ := Aside0.mk (rB8 (nr_ HO657.out) hb); have n4_ := Aside0.mk (Kd.R_lower (Kd.R_new' (Kd.R_new' ho0 (Kd.R_lt (nr_ HO_6.out))) (Kd.R_lt (nr_ HO_8.out))) (eZ8 (ne_ HB.out))); have n5_ := Aside0.mk (bB8 (g := gb625) (o := .cells #[.int .i64 a0_0, .slice A0_1 l0_1.length c0_1] 39 (0, 0)) (nb_ BK625.out) hb); have n6_ := Aside0.mk (bB8 (g := gb638) (o := .cells #[.int .i64 t634, .slice Ao31 t649.length co31] 25 (0, 0)) (nb_ BK638.out) hb); have n7_ := Aside0.mk (eS8 (ne_ HB.out) hb); clear HO_6; clear HO_8; clear HO_639001; clear HO657; clear BK625; clear BK638; clear HB; have HO_6 := n0_; have HO_8 := n1_; have HO_639001 := n2_; have HO657 := n3_; have HO660 := n4_; have BK625 := n5_; have BK638 := n6_; have HB := n7_; clear n0_ n1_ n2_ n3_ n4_ n5_ n6_ n7_; (try clear hb); (try clear hb2); (try clear hk); (try clear hi); (try clear ho0); obtain ⟨Ao69, co69, eo69⟩ := Kd.R_slice HO660.out; subst eo69) | ((with_reducible refine gate_callee (f := 23) rfl ?_); refine goesL_ (some 64) rfl rfl Try.func23 (by kernel_rfl) rfl #[.slice Ao69 t658.length co69, .slice Ao34 t631.length co34] rfl na_ ?_; (with_reducible refine (laws_eqIntS.calls kj17 _ _ t658 _ _ t631 true _ ?side1 ?side2 ?side3 ?side4 A51.out).mono ?_); (case side1 => exact nc_ (rR8 HO660.out).2.2); (case side2 => exact (rR8 HO660.out).2.1); (case side3 => exact nc_ (rR8 HO_6.out).2.2); (case side4 => exact (rR8 HO_6.out).2.1); rintro e w' ⟨rfl, ⟨nd, rfl⟩⟩; refine ⟨_, rfl, ?_⟩) | ((with_reducible refine gate_callee (f := 27) rfl ?_); refine goesL_ (some 68) rfl rfl Try.func27 (by kernel_rfl) rfl #[.slice Ao33 t652.length co33, .int .i64 1] rfl (by (try simp only [List.map_toArray, List.map_cons, List.map_nil]); first | done | (rw [show t652.length = t639.length from (rR8 HO_8.out).1.symm] <;> rfl) | rfl | (simp only [List.length_drop, List.length_take]; rfl)) ?_; (with_reducible refine (laws_heldIntS.calls kj17 _ _ t652 1 t662 _ ?side1 ?side2 A53.out).mono ?_); (case side1 => exact nc_ (rR8 HO_8.out).2.2); (case side2 => rw [show t652.length = t639.length from (rR8 HO_8.out).1.symm]; exact (rR8 HO_8.out).2.1); rintro e w' ⟨rfl, ⟨nd, rfl⟩⟩; refine ⟨_, rfl, ?_⟩))
             go_ret
             exact ⟨by first | rfl | (simp [errW_none, errW_some] <;> rfl) | (simp [*, errW_none, errW_some] <;> rfl), by repeat (first | (with_reducible first | exact HB.out | apply below_alloc | apply eN8 | apply below_drew1 | refine bS8 ?_ GE625.out | refine bS8 ?_ GE638.out) | exact HB.out)⟩
            ·rw [if_neg c62] at H
             have c62b0 : (t662 == t651) = false := beq_eq_false_iff_ne.mpr c62
             have c62b1 : (t662 != t651) = true := bne_iff_ne.mpr c62
             obtain rfl := Option.some.inj H
             go_wp2_with (first | ((with_reducible refine gate_callee (f := 26) rfl ?_); refine goesL_ (some 49) rfl rfl Try.func26 (by kernel_rfl) rfl #[.slice Ao33 t639.length co33, .int .i64 1] rfl na_ ?_; (with_reducible refine (laws_markIntS.calls kj17 (fun k_ => some k_ = (.slice Ao33 t639.length co33 : Value).ownBlock) (.slice Ao33 t639.length co33) t639 1 t651 t652 w _ ?side1 ?side2 A44.out).mono ?_); (case side1 => repeat (first | (with_reducible first | exact HB.out | apply below_alloc | apply eN8 | apply below_drew1 | refine bS8 ?_ GE625.out | refine bS8 ?_ GE638.out) | exact HB.out)); (case side2 => exact Kd.R_tight rfl HO_8.out); rintro e w70 ⟨rfl, hy0, hb, hkp⟩; refine ⟨_, rfl, ?_⟩; have n0_ := Aside0.mk (Kd.R_mono (ok' := fun k_ => some k_ ≠ (.slice Ao33 t639.length co33 : Value).ownBlock) (Kd.R_keptB (HO_6.out) hkp (fun k_ hk_ hs_ => (hk_) hs_)) (fun k_ hk_ => hk_.1)); have n1_ := Aside0.mk (Kd.R_reok rfl hy0 (fun k_ e_ => HO_8.out.1 k_ e_)); have n2_ := Aside0.mk (Kd.R_mono (ok' := fun k_ => True) (Kd.R_keptB ((Kd.R_apart' HO_639001.out (Kd.R_typed HO_8.out) (by decide))) hkp (fun k_ hk_ hs_ => (hk_.2) hs_)) (fun k_ hk_ => trivial)); have n3_ := Aside0.mk (blk_kept (g := gb625) (o := .cells #[.int .i64 a0_0, .slice A0_1 l0_1.length c0_1] 39 (0, 0)) (nb_ BK625.out) hkp (fun hs_ => (fun e_ => (Kd.R_ne HO_8.out BK625.out (by decide)) e_) hs_)); have n4_ := Aside0.mk (blk_kept (g := gb638) (o := .cells #[.int .i64 t634, .slice Ao31 t649.length co31] 25 (0, 0)) (nb_ BK638.out) hkp (fun hs_ => (fun e_ => (Kd.R_ne HO_8.out BK638.out (by decide)) e_) hs_)); have n5_ := Aside0.mk (hb); clear HO_6; clear HO_8; clear HO_639001; clear BK625; clear BK638; clear HB; have HO_6 := n0_; have HO_8 := n1_; have HO_639001 := n2_; have BK625 := n3_; have BK638 := n4_; have HB := n5_; clear n0_ n1_ n2_ n3_ n4_ n5_; (try clear hb); (try clear hkp); (try clear hy0)) | ((with_reducible refine gate_callee (f := 27) rfl ?_); refine goesL_ (some 52) rfl rfl Try.func27 (by kernel_rfl) rfl #[.slice Ao33 t652.length co33, .int .i64 1] rfl (by (try simp only [List.map_toArray, List.map_cons, List.map_nil]); first | done | (rw [show t652.length = t639.length from (rR8 HO_8.out).1.symm] <;> rfl) | rfl | (simp only [List.length_drop, List.length_take]; rfl)) ?_; (with_reducible refine (laws_heldIntS.calls kj17 _ _ t652 1 t653 _ ?side1 ?side2 A45.out).mono ?_); (case side1 => exact nc_ (rR8 HO_8.out).2.2); (case side2 => rw [show t652.length = t639.length from (rR8 HO_8.out).1.symm]; exact (rR8 HO_8.out).2.1); rintro e w' ⟨rfl, ⟨nd, rfl⟩⟩; refine ⟨_, rfl, ?_⟩; have hnb71 := NB625_638.out; have hnc71 := NB638_625.out; have hcz72_0 : w70.cell? ⟨gb625, 0, none⟩ = some (.int .i64 a0_0) := (bC8 BK625.out 0).trans rfl; have hcz72_1 : w70.cell? ⟨gb625, 1, none⟩ = some (.slice A0_1 l0_1.length c0_1) := (bC8 BK625.out 1).trans rfl; have hfz72_0 := blk_frozen BK625.out 0; have hfz72_1 := blk_frozen BK625.out 1) | ((with_reducible refine gate_callee (f := 22) rfl ?_); refine goesL_ (some 59) rfl rfl Try.func22 (by kernel_rfl) rfl #[.agg #[.int .i64 a0_0, .slice A0_1 l0_1.length c0_1]] rfl na_ ?_; (with_reducible refine (laws_toNet.calls kj17 a0_0 _ _ l0_1 t654 t655 _ ?side1 ?side2 A49.out).mono ?_); (case side1 => exact nc_ (Kd.C_below HR0_1.out (ne_ HB.out))); (case side2 => exact HC0_1.out); rintro e w73 ⟨v656, rfl, ho0, hb⟩; refine ⟨_, rfl, ?_⟩; have n0_ := Aside0.mk (rB8 (nr_ HO_6.out) hb); have n1_ := Aside0.mk (rB8 (nr_ HO_8.out) hb); have n2_ := Aside0.mk (Kd.R_elder' (nr_ HO_639001.out) (Kd.R_base ho0) hb); have n3_ := Aside0.mk (Kd.R_lower (Kd.R_new' ho0 (Kd.R_lt (nr_ HO_639001.out))) (eZ8 (ne_ HB.out))); have n4_ := Aside0.mk (bB8 (g := gb625) (o := .cells #[.int .i64 a0_0, .slice A0_1 l0_1.length c0_1] 39 (0, 0)) (nb_ BK625.out) hb); have n5_ := Aside0.mk (bB8 (g := gb638) (o := .cells #[.int .i64 t634, .slice Ao31 t649.length co31] 25 (0, 0)) (nb_ BK638.out) hb); have n6_ := Aside0.mk (eS8 (ne_ HB.out) hb); clear HO_6; clear HO_8; clear HO_639001; clear BK625; clear BK638; clear HB; have HO_6 := n0_; have HO_8 := n1_; have HO_639001 := n2_; have HO657 := n3_; have BK625 := n4_; have BK638 := n5_; have HB := n6_; clear n0_ n1_ n2_ n3_ n4_ n5_ n6_; (try clear hb); (try clear hb2); (try clear hk); (try clear hi); (try clear ho0); obtain ⟨Ao74, co74, eo74⟩ := Kd.R_slice HO657.out; subst eo74) | ((with_reducible refine gate_callee (f := 14) rfl ?_); refine goesL_ (some 61) rfl rfl Try.func14 (by kernel_rfl) rfl #[.agg #[.int .i64 t654, .slice Ao74 t655.length co74], .int .i64 a1] rfl na_ ?_; (with_reducible refine (impl_NearAll.calls kj17 t654 _ _ t655 a1 t658 _ ?side1 ?side2 A50.out).mono ?_); (case side1 => exact nc_ (rR8 HO657.out).2.2); (case side2 => exact (rR8 HO657.out).2.1); rintro e w75 ⟨v659, rfl, ho0, hb⟩; refine ⟨_, rfl, ?_⟩; have n0_ := Aside0.mk (Kd.R_elder' (nr_ HO_6.out) (Kd.R_base ho0) hb); have n1_ := Aside0.mk (Kd.R_elder' (nr_ HO_8.out) (Kd.R_base ho0) hb); have n2_ := Aside0.mk (rB8 (nr_ HO_639001.out) hb); have n3_ := Aside0.mk (rB8 (nr_ HO657.out) hb); have n4_ := Aside0.mk (Kd.R_lower (Kd.R_new' (Kd.R_new' ho0 (Kd.R_lt (nr_ HO_6.out))) (Kd.R_lt (nr_ HO_8.out))) (eZ8 (ne_ HB.out))); have n5_ := Aside0.mk (bB8 (g := gb625) (o := .cells #[.int .i64 a0_0, .slice A0_1 l0_1.length c0_1] 39 (0, 0)) (nb_ BK625.out) hb); have n6_ := Aside0.mk (bB8 (g := gb638) (o := .cells #[.int .i64 t634, .slice Ao31 t649.length co31] 25 (0, 0)) (nb_ BK638.out) hb); have n7_ := Aside0.mk (eS8 (ne_ HB.out) hb); clear HO_6; clear HO_8; clear HO_639001; clear HO657; clear BK625; clear BK638; clear HB; have HO_6 := n0_; have HO_8 := n1_; have HO_639001 := n2_; have HO657 := n3_; have HO660 := n4_; have BK625 := n5_; have BK638 := n6_; have HB := n7_; clear n0_ n1_ n2_ n3_ n4_ n5_ n6_ n7_; (try clear hb); (try clear hb2); (try clear hk); (try clear hi); (try clear ho0); obtain ⟨Ao76, co76, eo76⟩ := Kd.R_slice HO660.out; subst eo76) | ((with_reducible refine gate_callee (f := 23) rfl ?_); refine goesL_ (some 64) rfl rfl Try.func23 (by kernel_rfl) rfl #[.slice Ao76 t658.length co76, .slice Ao34 t631.length co34] rfl na_ ?_; (with_reducible refine (laws_eqIntS.calls kj17 _ _ t658 _ _ t631 true _ ?side1 ?side2 ?side3 ?side4 A51.out).mono ?_); (case side1 => exact nc_ (rR8 HO660.out).2.2); (case side2 => exact (rR8 HO660.out).2.1); (case side3 => exact nc_ (rR8 HO_6.out).2.2); (case side4 => exact (rR8 HO_6.out).2.1); rintro e w' ⟨rfl, ⟨nd, rfl⟩⟩; refine ⟨_, rfl, ?_⟩) | ((with_reducible refine gate_callee (f := 27) rfl ?_); refine goesL_ (some 68) rfl rfl Try.func27 (by kernel_rfl) rfl #[.slice Ao33 t652.length co33, .int .i64 1] rfl (by (try simp only [List.map_toArray, List.map_cons, List.map_nil]); first | done | (rw [show t652.length = t639.length from (rR8 HO_8.out).1.symm] <;> rfl) | rfl | (simp only [List.length_drop, List.length_take]; rfl)) ?_; (with_reducible refine (laws_heldIntS.calls kj17 _ _ t652 1 t662 _ ?side1 ?side2 A53.out).mono ?_); (case side1 => exact nc_ (rR8 HO_8.out).2.2); (case side2 => rw [show t652.length = t639.length from (rR8 HO_8.out).1.symm]; exact (rR8 HO_8.out).2.1); rintro e w' ⟨rfl, ⟨nd, rfl⟩⟩; refine ⟨_, rfl, ?_⟩))
             go_ret
             exact ⟨by first | rfl | (simp [errW_none, errW_some] <;> rfl) | (simp [*, errW_none, errW_some] <;> rfl), by repeat (first | (with_reducible first | exact HB.out | apply below_alloc | apply eN8 | apply below_drew1 | refine bS8 ?_ GE625.out | refine bS8 ?_ GE638.out) | exact HB.out)⟩
          ·replace c52 := Bool.eq_false_iff.mpr c52
           subst c52
           have H1 : (some false) = some r := by rw [if_neg (show ¬ (false = true) by decide)] at H; exact H
           clear H
           have H := H1
           clear H1
           obtain rfl := Option.some.inj H
           go_wp2_with (first | ((with_reducible refine gate_callee (f := 26) rfl ?_); refine goesL_ (some 49) rfl rfl Try.func26 (by kernel_rfl) rfl #[.slice Ao33 t639.length co33, .int .i64 1] rfl na_ ?_; (with_reducible refine (laws_markIntS.calls kj17 (fun k_ => some k_ = (.slice Ao33 t639.length co33 : Value).ownBlock) (.slice Ao33 t639.length co33) t639 1 t651 t652 w _ ?side1 ?side2 A44.out).mono ?_); (case side1 => repeat (first | (with_reducible first | exact HB.out | apply below_alloc | apply eN8 | apply below_drew1 | refine bS8 ?_ GE625.out | refine bS8 ?_ GE638.out) | exact HB.out)); (case side2 => exact Kd.R_tight rfl HO_8.out); rintro e w77 ⟨rfl, hy0, hb, hkp⟩; refine ⟨_, rfl, ?_⟩; have n0_ := Aside0.mk (Kd.R_mono (ok' := fun k_ => some k_ ≠ (.slice Ao33 t639.length co33 : Value).ownBlock) (Kd.R_keptB (HO_6.out) hkp (fun k_ hk_ hs_ => (hk_) hs_)) (fun k_ hk_ => hk_.1)); have n1_ := Aside0.mk (Kd.R_reok rfl hy0 (fun k_ e_ => HO_8.out.1 k_ e_)); have n2_ := Aside0.mk (Kd.R_mono (ok' := fun k_ => True) (Kd.R_keptB ((Kd.R_apart' HO_639001.out (Kd.R_typed HO_8.out) (by decide))) hkp (fun k_ hk_ hs_ => (hk_.2) hs_)) (fun k_ hk_ => trivial)); have n3_ := Aside0.mk (blk_kept (g := gb625) (o := .cells #[.int .i64 a0_0, .slice A0_1 l0_1.length c0_1] 39 (0, 0)) (nb_ BK625.out) hkp (fun hs_ => (fun e_ => (Kd.R_ne HO_8.out BK625.out (by decide)) e_) hs_)); have n4_ := Aside0.mk (blk_kept (g := gb638) (o := .cells #[.int .i64 t634, .slice Ao31 t649.length co31] 25 (0, 0)) (nb_ BK638.out) hkp (fun hs_ => (fun e_ => (Kd.R_ne HO_8.out BK638.out (by decide)) e_) hs_)); have n5_ := Aside0.mk (hb); clear HO_6; clear HO_8; clear HO_639001; clear BK625; clear BK638; clear HB; have HO_6 := n0_; have HO_8 := n1_; have HO_639001 := n2_; have BK625 := n3_; have BK638 := n4_; have HB := n5_; clear n0_ n1_ n2_ n3_ n4_ n5_; (try clear hb); (try clear hkp); (try clear hy0)) | ((with_reducible refine gate_callee (f := 27) rfl ?_); refine goesL_ (some 52) rfl rfl Try.func27 (by kernel_rfl) rfl #[.slice Ao33 t652.length co33, .int .i64 1] rfl (by (try simp only [List.map_toArray, List.map_cons, List.map_nil]); first | done | (rw [show t652.length = t639.length from (rR8 HO_8.out).1.symm] <;> rfl) | rfl | (simp only [List.length_drop, List.length_take]; rfl)) ?_; (with_reducible refine (laws_heldIntS.calls kj17 _ _ t652 1 t653 _ ?side1 ?side2 A45.out).mono ?_); (case side1 => exact nc_ (rR8 HO_8.out).2.2); (case side2 => rw [show t652.length = t639.length from (rR8 HO_8.out).1.symm]; exact (rR8 HO_8.out).2.1); rintro e w' ⟨rfl, ⟨nd, rfl⟩⟩; refine ⟨_, rfl, ?_⟩; have hnb78 := NB625_638.out; have hnc78 := NB638_625.out; have hcz79_0 : w77.cell? ⟨gb625, 0, none⟩ = some (.int .i64 a0_0) := (bC8 BK625.out 0).trans rfl; have hcz79_1 : w77.cell? ⟨gb625, 1, none⟩ = some (.slice A0_1 l0_1.length c0_1) := (bC8 BK625.out 1).trans rfl; have hfz79_0 := blk_frozen BK625.out 0; have hfz79_1 := blk_frozen BK625.out 1) | ((with_reducible refine gate_callee (f := 22) rfl ?_); refine goesL_ (some 59) rfl rfl Try.func22 (by kernel_rfl) rfl #[.agg #[.int .i64 a0_0, .slice A0_1 l0_1.length c0_1]] rfl na_ ?_; (with_reducible refine (laws_toNet.calls kj17 a0_0 _ _ l0_1 t654 t655 _ ?side1 ?side2 A49.out).mono ?_); (case side1 => exact nc_ (Kd.C_below HR0_1.out (ne_ HB.out))); (case side2 => exact HC0_1.out); rintro e w80 ⟨v656, rfl, ho0, hb⟩; refine ⟨_, rfl, ?_⟩; have n0_ := Aside0.mk (rB8 (nr_ HO_6.out) hb); have n1_ := Aside0.mk (rB8 (nr_ HO_8.out) hb); have n2_ := Aside0.mk (Kd.R_elder' (nr_ HO_639001.out) (Kd.R_base ho0) hb); have n3_ := Aside0.mk (Kd.R_lower (Kd.R_new' ho0 (Kd.R_lt (nr_ HO_639001.out))) (eZ8 (ne_ HB.out))); have n4_ := Aside0.mk (bB8 (g := gb625) (o := .cells #[.int .i64 a0_0, .slice A0_1 l0_1.length c0_1] 39 (0, 0)) (nb_ BK625.out) hb); have n5_ := Aside0.mk (bB8 (g := gb638) (o := .cells #[.int .i64 t634, .slice Ao31 t649.length co31] 25 (0, 0)) (nb_ BK638.out) hb); have n6_ := Aside0.mk (eS8 (ne_ HB.out) hb); clear HO_6; clear HO_8; clear HO_639001; clear BK625; clear BK638; clear HB; have HO_6 := n0_; have HO_8 := n1_; have HO_639001 := n2_; have HO657 := n3_; have BK625 := n4_; have BK638 := n5_; have HB := n6_; clear n0_ n1_ n2_ n3_ n4_ n5_ n6_; (try clear hb); (try clear hb2); (try clear hk); (try clear hi); (try clear ho0); obtain ⟨Ao81, co81, eo81⟩ := Kd.R_slice HO657.out; subst eo81) | ((with_reducible refine gate_callee (f := 14) rfl ?_); refine goesL_ (some 61) rfl rfl Try.func14 (by kernel_rfl) rfl #[.agg #[.int .i64 t654, .slice Ao81 t655.length co81], .int .i64 a1] rfl na_ ?_; (with_reducible refine (impl_NearAll.calls kj17 t654 _ _ t655 a1 t658 _ ?side1 ?side2 A50.out).mono ?_); (case side1 => exact nc_ (rR8 HO657.out).2.2); (case side2 => exact (rR8 HO657.out).2.1); rintro e w82 ⟨v659, rfl, ho0, hb⟩; refine ⟨_, rfl, ?_⟩; have n0_ := Aside0.mk (Kd.R_elder' (nr_ HO_6.out) (Kd.R_base ho0) hb); have n1_ := Aside0.mk (Kd.R_elder' (nr_ HO_8.out) (Kd.R_base ho0) hb); have n2_ := Aside0.mk (rB8 (nr_ HO_639001.out) hb); have n3_ := Aside0.mk (rB8 (nr_ HO657.out) hb); have n4_ := Aside0.mk (Kd.R_lower (Kd.R_new' (Kd.R_new' ho0 (Kd.R_lt (nr_ HO_6.out))) (Kd.R_lt (nr_ HO_8.out))) (eZ8 (ne_ HB.out))); have n5_ := Aside0.mk (bB8 (g := gb625) (o := .cells #[.int .i64 a0_0, .slice A0_1 l0_1.length c0_1] 39 (0, 0)) (nb_ BK625.out) hb); have n6_ := Aside0.mk (bB8 (g := gb638) (o := .cells #[.int .i64 t634, .slice Ao31 t649.length co31] 25 (0, 0)) (nb_ BK638.out) hb); have n7_ := Aside0.mk (eS8 (ne_ HB.out) hb); clear HO_6; clear HO_8; clear HO_639001; clear HO657; clear BK625; clear BK638; clear HB; have HO_6 := n0_; have HO_8 := n1_; have HO_639001 := n2_; have HO657 := n3_; have HO660 := n4_; have BK625 := n5_; have BK638 := n6_; have HB := n7_; clear n0_ n1_ n2_ n3_ n4_ n5_ n6_ n7_; (try clear hb); (try clear hb2); (try clear hk); (try clear hi); (try clear ho0); obtain ⟨Ao83, co83, eo83⟩ := Kd.R_slice HO660.out; subst eo83) | ((with_reducible refine gate_callee (f := 23) rfl ?_); refine goesL_ (some 64) rfl rfl Try.func23 (by kernel_rfl) rfl #[.slice Ao83 t658.length co83, .slice Ao34 t631.length co34] rfl na_ ?_; (with_reducible refine (laws_eqIntS.calls kj17 _ _ t658 _ _ t631 false _ ?side1 ?side2 ?side3 ?side4 A51.out).mono ?_); (case side1 => exact nc_ (rR8 HO660.out).2.2); (case side2 => exact (rR8 HO660.out).2.1); (case side3 => exact nc_ (rR8 HO_6.out).2.2); (case side4 => exact (rR8 HO_6.out).2.1); rintro e w' ⟨rfl, ⟨nd, rfl⟩⟩; refine ⟨_, rfl, ?_⟩))
           go_ret
           exact ⟨by first | rfl | (simp [errW_none, errW_some] <;> rfl) | (simp [*, errW_none, errW_some] <;> rfl), by repeat (first | (with_reducible first | exact HB.out | apply below_alloc | apply eN8 | apply below_drew1 | refine bS8 ?_ GE625.out | refine bS8 ?_ GE638.out) | exact HB.out)⟩
         ·rw [if_neg c48] at H
          have c48b0 : (t653 == t651) = false := beq_eq_false_iff_ne.mpr c48
          have c48b1 : (t653 != t651) = true := bne_iff_ne.mpr c48
          obtain rfl := Option.some.inj H
          go_wp2_with (first | ((with_reducible refine gate_callee (f := 26) rfl ?_); refine goesL_ (some 49) rfl rfl Try.func26 (by kernel_rfl) rfl #[.slice Ao33 t639.length co33, .int .i64 1] rfl na_ ?_; (with_reducible refine (laws_markIntS.calls kj17 (fun k_ => some k_ = (.slice Ao33 t639.length co33 : Value).ownBlock) (.slice Ao33 t639.length co33) t639 1 t651 t652 w _ ?side1 ?side2 A44.out).mono ?_); (case side1 => repeat (first | (with_reducible first | exact HB.out | apply below_alloc | apply eN8 | apply below_drew1 | refine bS8 ?_ GE625.out | refine bS8 ?_ GE638.out) | exact HB.out)); (case side2 => exact Kd.R_tight rfl HO_8.out); rintro e w84 ⟨rfl, hy0, hb, hkp⟩; refine ⟨_, rfl, ?_⟩; have n0_ := Aside0.mk (Kd.R_mono (ok' := fun k_ => some k_ ≠ (.slice Ao33 t639.length co33 : Value).ownBlock) (Kd.R_keptB (HO_6.out) hkp (fun k_ hk_ hs_ => (hk_) hs_)) (fun k_ hk_ => hk_.1)); have n1_ := Aside0.mk (Kd.R_reok rfl hy0 (fun k_ e_ => HO_8.out.1 k_ e_)); have n2_ := Aside0.mk (Kd.R_mono (ok' := fun k_ => True) (Kd.R_keptB ((Kd.R_apart' HO_639001.out (Kd.R_typed HO_8.out) (by decide))) hkp (fun k_ hk_ hs_ => (hk_.2) hs_)) (fun k_ hk_ => trivial)); have n3_ := Aside0.mk (blk_kept (g := gb625) (o := .cells #[.int .i64 a0_0, .slice A0_1 l0_1.length c0_1] 39 (0, 0)) (nb_ BK625.out) hkp (fun hs_ => (fun e_ => (Kd.R_ne HO_8.out BK625.out (by decide)) e_) hs_)); have n4_ := Aside0.mk (blk_kept (g := gb638) (o := .cells #[.int .i64 t634, .slice Ao31 t649.length co31] 25 (0, 0)) (nb_ BK638.out) hkp (fun hs_ => (fun e_ => (Kd.R_ne HO_8.out BK638.out (by decide)) e_) hs_)); have n5_ := Aside0.mk (hb); clear HO_6; clear HO_8; clear HO_639001; clear BK625; clear BK638; clear HB; have HO_6 := n0_; have HO_8 := n1_; have HO_639001 := n2_; have BK625 := n3_; have BK638 := n4_; have HB := n5_; clear n0_ n1_ n2_ n3_ n4_ n5_; (try clear hb); (try clear hkp); (try clear hy0)) | ((with_reducible refine gate_callee (f := 27) rfl ?_); refine goesL_ (some 52) rfl rfl Try.func27 (by kernel_rfl) rfl #[.slice Ao33 t652.length co33, .int .i64 1] rfl (by (try simp only [List.map_toArray, List.map_cons, List.map_nil]); first | done | (rw [show t652.length = t639.length from (rR8 HO_8.out).1.symm] <;> rfl) | rfl | (simp only [List.length_drop, List.length_take]; rfl)) ?_; (with_reducible refine (laws_heldIntS.calls kj17 _ _ t652 1 t653 _ ?side1 ?side2 A45.out).mono ?_); (case side1 => exact nc_ (rR8 HO_8.out).2.2); (case side2 => rw [show t652.length = t639.length from (rR8 HO_8.out).1.symm]; exact (rR8 HO_8.out).2.1); rintro e w' ⟨rfl, ⟨nd, rfl⟩⟩; refine ⟨_, rfl, ?_⟩))
          go_ret
          exact ⟨by first | rfl | (simp [errW_none, errW_some] <;> rfl) | (simp [*, errW_none, errW_some] <;> rfl), by repeat (first | (with_reducible first | exact HB.out | apply below_alloc | apply eN8 | apply below_drew1 | refine bS8 ?_ GE625.out | refine bS8 ?_ GE638.out) | exact HB.out)⟩
    ·replace c16 := Bool.eq_false_iff.mpr c16
     subst c16
     have H1 : (some false) = some r := by rw [if_neg (show ¬ (false = true) by decide)] at H; exact H
     clear H
     have H := H1
     clear H1
     obtain rfl := Option.some.inj H
     go_enter Try.func8, Try.ntmps8
     try go_wp2_with (first | ((with_reducible refine gate_dst (N := 2) rfl ?_); refine box_event ?hg (N := 2) ?hd (cs := #[.int .i64 a0_0, .slice A0_1 l0_1.length c0_1]) (t := 39) ?hr ?_; (case hd => rfl); (case hg => rfl); (case hr => first | (go_simp; done) | (go_simp; rfl)); intro gb625 hg w85 hbox hb; have n0_ := Aside0.mk (eS8 (ne_ HB.out) hb); have n1_ := Aside0.mk (hbox); have n2_ := Aside0.mk ((by rw [hg]; exact (eZ8 (ne_ HB.out)) : w.heap.size ≤ gb625)); have n3_ := Aside0.mk ((by rw [hg]; exact (eZ8 (ne_ HB.out)) : w.heap.size ≤ gb625)); clear HB; have HB := n0_; have BK625 := n1_; have GW625 := n2_; have GE625 := n3_; clear n0_ n1_ n2_ n3_; clear hb hbox hg; have hcz86_0 : w85.cell? ⟨gb625, 0, none⟩ = some (.int .i64 a0_0) := (bC8 BK625.out 0).trans rfl; have hcz86_1 : w85.cell? ⟨gb625, 1, none⟩ = some (.slice A0_1 l0_1.length c0_1) := (bC8 BK625.out 1).trans rfl; have hfz86_0 := blk_frozen BK625.out 0; have hfz86_1 := blk_frozen BK625.out 1) | ((with_reducible refine gate_callee (f := 21) rfl ?_); refine goesL_ (some 15) rfl rfl Try.func21 (by kernel_rfl) rfl #[.agg #[.int .i64 a0_0, .slice A0_1 l0_1.length c0_1], .int .i64 1048576] rfl na_ ?_; (with_reducible refine (laws_szNet.calls a0_0 _ _ l0_1 1048576 t626 _ ?side1 ?side2 A3.out).mono ?_); (case side1 => exact nc_ (Kd.C_below HR0_1.out HB.out)); (case side2 => exact HC0_1.out); rintro e w87 ⟨rfl, hb⟩; refine ⟨_, rfl, ?_⟩; have n0_ := Aside0.mk (bB8 (g := gb625) (o := .cells #[.int .i64 a0_0, .slice A0_1 l0_1.length c0_1] 39 (0, 0)) (nb_ BK625.out) hb); have n1_ := Aside0.mk (eS8 (ne_ HB.out) hb); clear BK625; clear HB; have BK625 := n0_; have HB := n1_; clear n0_ n1_; (try clear hb); (try clear hb2); (try clear hk); (try clear hi); have hcz88_0 : w87.cell? ⟨gb625, 0, none⟩ = some (.int .i64 a0_0) := (bC8 BK625.out 0).trans rfl; have hcz88_1 : w87.cell? ⟨gb625, 1, none⟩ = some (.slice A0_1 l0_1.length c0_1) := (bC8 BK625.out 1).trans rfl; have hfz88_0 := blk_frozen BK625.out 0; have hfz88_1 := blk_frozen BK625.out 1) | ((with_reducible refine gate_callee (f := 22) rfl ?_); refine goesL_ (some 19) rfl rfl Try.func22 (by kernel_rfl) rfl #[.agg #[.int .i64 a0_0, .slice A0_1 l0_1.length c0_1]] rfl na_ ?_; (with_reducible refine (laws_toNet.calls k a0_0 _ _ l0_1 t627 t628 _ ?side1 ?side2 A8.out).mono ?_); (case side1 => exact nc_ (Kd.C_below HR0_1.out HB.out)); (case side2 => exact HC0_1.out); rintro e w89 ⟨v629, rfl, ho0, hb⟩; refine ⟨_, rfl, ?_⟩; have n0_ := Aside0.mk (Kd.R_lower ho0 (eZ8 (ne_ HB.out))); have n1_ := Aside0.mk (bB8 (g := gb625) (o := .cells #[.int .i64 a0_0, .slice A0_1 l0_1.length c0_1] 39 (0, 0)) (nb_ BK625.out) hb); have n2_ := Aside0.mk (eS8 (ne_ HB.out) hb); clear BK625; clear HB; have HO630 := n0_; have BK625 := n1_; have HB := n2_; clear n0_ n1_ n2_; (try clear hb); (try clear hb2); (try clear hk); (try clear hi); (try clear ho0); obtain ⟨Ao90, co90, eo90⟩ := Kd.R_slice HO630.out; subst eo90) | ((with_reducible refine gate_callee (f := 16) rfl ?_); refine goesL_ (some 21) rfl rfl Try.func16 (by kernel_rfl) rfl #[.agg #[.int .i64 t627, .slice Ao90 t628.length co90], .int .i64 a1] rfl na_ ?_; (with_reducible refine (spec_NearAll.calls k t627 _ _ t628 a1 t631 _ ?side1 ?side2 A9.out).mono ?_); (case side1 => exact nc_ (rR8 HO630.out).2.2); (case side2 => exact (rR8 HO630.out).2.1); rintro e w91 ⟨v632, rfl, ho0, hb⟩; refine ⟨_, rfl, ?_⟩; have n0_ := Aside0.mk (rB8 (nr_ HO630.out) hb); have n1_ := Aside0.mk (Kd.R_lower ho0 (eZ8 (ne_ HB.out))); have n2_ := Aside0.mk (bB8 (g := gb625) (o := .cells #[.int .i64 a0_0, .slice A0_1 l0_1.length c0_1] 39 (0, 0)) (nb_ BK625.out) hb); have n3_ := Aside0.mk (eS8 (ne_ HB.out) hb); clear HO630; clear BK625; clear HB; have HO630 := n0_; have HO633 := n1_; have BK625 := n2_; have HB := n3_; clear n0_ n1_ n2_ n3_; (try clear hb); (try clear hb2); (try clear hk); (try clear hi); (try clear ho0); have hcz92_0 : w91.cell? ⟨gb625, 0, none⟩ = some (.int .i64 a0_0) := (bC8 BK625.out 0).trans rfl; have hcz92_1 : w91.cell? ⟨gb625, 1, none⟩ = some (.slice A0_1 l0_1.length c0_1) := (bC8 BK625.out 1).trans rfl; have hfz92_0 := blk_frozen BK625.out 0; have hfz92_1 := blk_frozen BK625.out 1) | ((with_reducible refine gate_callee (f := 22) rfl ?_); refine goesL_ (some 23) rfl rfl Try.func22 (by kernel_rfl) rfl #[.agg #[.int .i64 a0_0, .slice A0_1 l0_1.length c0_1]] rfl na_ ?_; (with_reducible refine (laws_toNet.calls k a0_0 _ _ l0_1 t634 t635 _ ?side1 ?side2 A10.out).mono ?_); (case side1 => exact nc_ (Kd.C_below HR0_1.out HB.out)); (case side2 => exact HC0_1.out); rintro e w93 ⟨v636, rfl, ho0, hb⟩; refine ⟨_, rfl, ?_⟩; have n0_ := Aside0.mk (Kd.R_elder' (nr_ HO630.out) (Kd.R_base ho0) hb); have n1_ := Aside0.mk (rB8 (nr_ HO633.out) hb); have n2_ := Aside0.mk (Kd.R_lower (Kd.R_new' ho0 (Kd.R_lt (nr_ HO630.out))) (eZ8 (ne_ HB.out))); have n3_ := Aside0.mk (bB8 (g := gb625) (o := .cells #[.int .i64 a0_0, .slice A0_1 l0_1.length c0_1] 39 (0, 0)) (nb_ BK625.out) hb); have n4_ := Aside0.mk (eS8 (ne_ HB.out) hb); clear HO630; clear HO633; clear BK625; clear HB; have HO630 := n0_; have HO633 := n1_; have HO637 := n2_; have BK625 := n3_; have HB := n4_; clear n0_ n1_ n2_ n3_ n4_; (try clear hb); (try clear hb2); (try clear hk); (try clear hi); (try clear ho0)) | ((with_reducible refine gate_dst (N := 7) rfl ?_); refine box_event ?hg (N := 7) ?hd (cs := #[.int .i64 0, .slice none 0 0]) (t := 25) ?hr ?_; (case hd => rfl); (case hg => rfl); (case hr => first | (go_simp; done) | (go_simp; rfl)); intro gb638 hg w94 hbox hb; have n0_ := Aside0.mk (rB8 (nr_ HO630.out) hb); have n1_ := Aside0.mk (rB8 (nr_ HO633.out) hb); have n2_ := Aside0.mk (rB8 (nr_ HO637.out) hb); have n3_ := Aside0.mk (bB8 (g := gb625) (o := .cells #[.int .i64 a0_0, .slice A0_1 l0_1.length c0_1] 39 (0, 0)) (nb_ BK625.out) hb); have n4_ := Aside0.mk (eS8 (ne_ HB.out) hb); have n5_ := Aside0.mk (hbox); have n6_ := Aside0.mk ((by rw [hg]; exact (eZ8 (ne_ HB.out)) : w.heap.size ≤ gb638)); have n7_ := Aside0.mk ((by rw [hg]; exact (eZ8 (ne_ HB.out)) : w.heap.size ≤ gb638)); have n8_ := Aside0.mk ((by rw [hg]; exact Nat.ne_of_lt (blk_lt (g := gb625) (o := .cells #[.int .i64 a0_0, .slice A0_1 l0_1.length c0_1] 39 (0, 0)) (nb_ BK625.out)) : gb625 ≠ gb638)); have n9_ := Aside0.mk ((by rw [hg]; exact Nat.ne_of_gt (blk_lt (g := gb625) (o := .cells #[.int .i64 a0_0, .slice A0_1 l0_1.length c0_1] 39 (0, 0)) (nb_ BK625.out)) : gb638 ≠ gb625)); clear HO630; clear HO633; clear HO637; clear BK625; clear HB; have HO630 := n0_; have HO633 := n1_; have HO637 := n2_; have BK625 := n3_; have HB := n4_; have BK638 := n5_; have GW638 := n6_; have GE638 := n7_; have NB625_638 := n8_; have NB638_625 := n9_; clear n0_ n1_ n2_ n3_ n4_ n5_ n6_ n7_ n8_ n9_; clear hb hbox hg; have hnb95 := NB638_625.out; have hnc95 := NB625_638.out; have hcz96_0 : w94.cell? ⟨gb638, 0, none⟩ = some (.int .i64 0) := (bC8 BK638.out 0).trans rfl; have hcz96_1 : w94.cell? ⟨gb638, 1, none⟩ = some (.slice none 0 0) := (bC8 BK638.out 1).trans rfl; have hfz96_0 := blk_frozen BK638.out 0; have hfz96_1 := blk_frozen BK638.out 1; obtain ⟨Ao97, co97, eo97⟩ := Kd.R_slice HO637.out; subst eo97) | ((with_reducible refine gate_callee (f := 14) rfl ?_); refine goesL_ (some 26) rfl rfl Try.func14 (by kernel_rfl) rfl #[.agg #[.int .i64 t634, .slice Ao97 t635.length co97], .int .i64 a1] rfl na_ ?_; (with_reducible refine (impl_NearAll.calls k t634 _ _ t635 a1 t639 _ ?side1 ?side2 A11.out).mono ?_); (case side1 => refine (rR8 (e := 33) (base := w.heap.size) (ok := fun k_ => (True ∧ some k_ ≠ (.slice Ao90 t628.length co90 : Value).ownBlock)) (n := t635.length) (c := co97) ?_).2.2; exact (by (with_reducible repeat (first | apply rA8 | apply rN8 | apply rD8)); exact (Kd.R_mono (Kd.R_far (p := ⟨gb638, 1, none⟩) (Kd.R_far (p := ⟨gb638, 0, none⟩) (Kd.R_types HO637.out BK638.out (by decide)) (fun _ hk => hk.2) (.int .i64 t634)) (fun _ hk => hk.2) (.slice Ao97 t635.length co97)) (fun _ h_ => h_.1)))); (case side2 => exact (rR8 HO637.out).2.1); rintro e w98 ⟨v640, rfl, ho0, hb⟩; refine ⟨_, rfl, ?_⟩; have n0_ := Aside0.mk (rB8 (by (with_reducible repeat (first | apply rA8 | apply rN8 | apply rD8)); exact (Kd.R_mono (Kd.R_far (p := ⟨gb638, 1, none⟩) (Kd.R_far (p := ⟨gb638, 0, none⟩) (Kd.R_types HO630.out BK638.out (by decide)) (fun _ hk => hk.2) (.int .i64 t634)) (fun _ hk => hk.2) (.slice Ao97 t635.length co97)) (fun _ h_ => h_.1))) hb); have n1_ := Aside0.mk (Kd.R_elder' (by (with_reducible repeat (first | apply rA8 | apply rN8 | apply rD8)); exact (Kd.R_mono (Kd.R_far (p := ⟨gb638, 1, none⟩) (Kd.R_far (p := ⟨gb638, 0, none⟩) (Kd.R_types HO633.out BK638.out (by decide)) (fun _ hk => hk.2) (.int .i64 t634)) (fun _ hk => hk.2) (.slice Ao97 t635.length co97)) (fun _ h_ => h_.1))) (Kd.R_base ho0) hb); have n2_ := Aside0.mk (rB8 (by (with_reducible repeat (first | apply rA8 | apply rN8 | apply rD8)); exact (Kd.R_mono (Kd.R_far (p := ⟨gb638, 1, none⟩) (Kd.R_far (p := ⟨gb638, 0, none⟩) (Kd.R_types HO637.out BK638.out (by decide)) (fun _ hk => hk.2) (.int .i64 t634)) (fun _ hk => hk.2) (.slice Ao97 t635.length co97)) (fun _ h_ => h_.1))) hb); have n3_ := Aside0.mk (Kd.R_lower (Kd.R_new' ho0 (Kd.R_lt (by (with_reducible repeat (first | apply rA8 | apply rN8 | apply rD8)); exact (Kd.R_mono (Kd.R_far (p := ⟨gb638, 1, none⟩) (Kd.R_far (p := ⟨gb638, 0, none⟩) (Kd.R_types HO633.out BK638.out (by decide)) (fun _ hk => hk.2) (.int .i64 t634)) (fun _ hk => hk.2) (.slice Ao97 t635.length co97)) (fun _ h_ => h_.1))))) (eZ8 (ne_ HB.out))); have n4_ := Aside0.mk (bB8 (g := gb625) (o := .cells #[.int .i64 a0_0, .slice A0_1 l0_1.length c0_1] 39 (0, 0)) (nbf_ BK625.out) hb); have n5_ := Aside0.mk (bB8 (g := gb638) (o := .cells #[.int .i64 t634, .slice Ao97 t635.length co97] 25 (0, 0)) (by (with_reducible repeat (first | refine blk_drewN ?_ _ | refine blk_drew ?_ | refine blk_alloc ?_ _)); refine blk_put (cs := #[.int .i64 t634, .slice none 0 0]) ?_ 1 _ rfl; (with_reducible repeat (first | refine blk_drewN ?_ _ | refine blk_drew ?_ | refine blk_alloc ?_ _)); refine blk_put (cs := #[.int .i64 0, .slice none 0 0]) ?_ 0 _ rfl; (with_reducible repeat (first | refine blk_drewN ?_ _ | refine blk_drew ?_ | refine blk_alloc ?_ _)); exact BK638.out) hb); have n6_ := Aside0.mk (eS8 (ne_ HB.out) hb); clear HO630; clear HO633; clear HO637; clear BK625; clear BK638; clear HB; have HO630 := n0_; have HO633 := n1_; have HO637 := n2_; have HO641 := n3_; have BK625 := n4_; have BK638 := n5_; have HB := n6_; clear n0_ n1_ n2_ n3_ n4_ n5_ n6_; (try clear hb); (try clear hb2); (try clear hk); (try clear hi); (try clear ho0); obtain ⟨Ao99, co99, eo99⟩ := Kd.R_slice HO641.out; subst eo99; obtain ⟨Ao100, co100, eo100⟩ := Kd.R_slice HO633.out; subst eo100) | ((with_reducible refine gate_callee (f := 23) rfl ?_); refine goesL_ (some 29) rfl rfl Try.func23 (by kernel_rfl) rfl #[.slice Ao99 t639.length co99, .slice Ao100 t631.length co100] rfl na_ ?_; (with_reducible refine (laws_eqIntS.calls k _ _ t639 _ _ t631 true _ ?side1 ?side2 ?side3 ?side4 A12.out).mono ?_); (case side1 => exact nc_ (rR8 HO641.out).2.2); (case side2 => exact (rR8 HO641.out).2.1); (case side3 => exact nc_ (rR8 HO633.out).2.2); (case side4 => exact (rR8 HO633.out).2.1); rintro e w' ⟨rfl, ⟨nd, rfl⟩⟩; refine ⟨_, rfl, ?_⟩))
     (first | (rw [drewN_self w98]; generalize hq_ : World.drewN w98 _ = w98; have n0_ : Aside0 (Kd.R k33 33 w98 w.heap.size (fun k_ => some k_ ≠ (.slice Ao97 t635.length co97 : Value).ownBlock) (.slice Ao90 t628.length co90) t628) := ⟨by rw [← hq_]; exact (by (with_reducible repeat (first | apply rA8 | apply rN8 | apply rD8)); exact Kd.R_mono HO630.out (fun _ hk => by first | exact hk.2 | trivial | simp_all))⟩; have n1_ : Aside0 (Kd.R (Kd.int .i64) 3 w98 w.heap.size (fun k_ => some k_ ≠ (.slice Ao99 t639.length co99 : Value).ownBlock) (.slice Ao100 t631.length co100) t631) := ⟨by rw [← hq_]; exact (by (with_reducible repeat (first | apply rA8 | apply rN8 | apply rD8)); exact Kd.R_mono HO633.out (fun _ hk => by first | exact hk.2 | trivial | simp_all))⟩; have n2_ : Aside0 (Kd.R k33 33 w98 w.heap.size (fun k_ => some k_ ≠ (.slice Ao90 t628.length co90 : Value).ownBlock) (.slice Ao97 t635.length co97) t635) := ⟨by rw [← hq_]; exact (by (with_reducible repeat (first | apply rA8 | apply rN8 | apply rD8)); exact Kd.R_mono HO637.out (fun _ hk => by first | exact hk.2 | trivial | simp_all))⟩; have n3_ : Aside0 (Kd.R (Kd.int .i64) 3 w98 w.heap.size (fun k_ => some k_ ≠ (.slice Ao100 t631.length co100 : Value).ownBlock) (.slice Ao99 t639.length co99) t639) := ⟨by rw [← hq_]; exact (by (with_reducible repeat (first | apply rA8 | apply rN8 | apply rD8)); exact Kd.R_mono HO641.out (fun _ hk => by first | exact hk.2 | trivial | simp_all))⟩; have n4_ : Aside0 (w98.heap[gb625]? = some (.cells #[.int .i64 a0_0, .slice A0_1 l0_1.length c0_1] 39 (0, 0))) := ⟨by rw [← hq_]; exact (nb_ BK625.out)⟩; have n5_ : Aside0 (w98.heap[gb638]? = some (.cells #[.int .i64 t634, .slice Ao97 t635.length co97] 25 (0, 0))) := ⟨by rw [← hq_]; exact (nb_ BK638.out)⟩; have n6_ : Aside0 (Below w.heap.size w w98) := ⟨by rw [← hq_]; exact (ne_ HB.out)⟩; clear HO630 HO633 HO637 HO641 BK625 BK638 HB hq_; have HO630 := n0_; have HO633 := n1_; have HO637 := n2_; have HO641 := n3_; have BK625 := n4_; have BK638 := n5_; have HB := n6_; clear n0_ n1_ n2_ n3_ n4_ n5_ n6_) | (have n0_ : Aside0 (Kd.R k33 33 w98 w.heap.size (fun k_ => some k_ ≠ (.slice Ao97 t635.length co97 : Value).ownBlock) (.slice Ao90 t628.length co90) t628) := ⟨(by (with_reducible repeat (first | apply rA8 | apply rN8 | apply rD8)); exact Kd.R_mono HO630.out (fun _ hk => by first | exact hk.2 | trivial | simp_all))⟩; have n1_ : Aside0 (Kd.R (Kd.int .i64) 3 w98 w.heap.size (fun k_ => some k_ ≠ (.slice Ao99 t639.length co99 : Value).ownBlock) (.slice Ao100 t631.length co100) t631) := ⟨(by (with_reducible repeat (first | apply rA8 | apply rN8 | apply rD8)); exact Kd.R_mono HO633.out (fun _ hk => by first | exact hk.2 | trivial | simp_all))⟩; have n2_ : Aside0 (Kd.R k33 33 w98 w.heap.size (fun k_ => some k_ ≠ (.slice Ao90 t628.length co90 : Value).ownBlock) (.slice Ao97 t635.length co97) t635) := ⟨(by (with_reducible repeat (first | apply rA8 | apply rN8 | apply rD8)); exact Kd.R_mono HO637.out (fun _ hk => by first | exact hk.2 | trivial | simp_all))⟩; have n3_ : Aside0 (Kd.R (Kd.int .i64) 3 w98 w.heap.size (fun k_ => some k_ ≠ (.slice Ao100 t631.length co100 : Value).ownBlock) (.slice Ao99 t639.length co99) t639) := ⟨(by (with_reducible repeat (first | apply rA8 | apply rN8 | apply rD8)); exact Kd.R_mono HO641.out (fun _ hk => by first | exact hk.2 | trivial | simp_all))⟩; have n4_ : Aside0 (w98.heap[gb625]? = some (.cells #[.int .i64 a0_0, .slice A0_1 l0_1.length c0_1] 39 (0, 0))) := ⟨(nb_ BK625.out)⟩; have n5_ : Aside0 (w98.heap[gb638]? = some (.cells #[.int .i64 t634, .slice Ao97 t635.length co97] 25 (0, 0))) := ⟨(nb_ BK638.out)⟩; have n6_ : Aside0 (Below w.heap.size w w98) := ⟨(ne_ HB.out)⟩; clear HO630 HO633 HO637 HO641 BK625 BK638 HB; have HO630 := n0_; have HO633 := n1_; have HO637 := n2_; have HO641 := n3_; have BK625 := n4_; have BK638 := n5_; have HB := n6_; clear n0_ n1_ n2_ n3_ n4_ n5_ n6_))
     have n0_ := Aside0.mk (rD8 HO630.out)
     have n1_ := Aside0.mk (rD8 HO633.out)
     have n2_ := Aside0.mk (rD8 HO637.out)
     have n3_ := Aside0.mk (rD8 HO641.out)
     have n4_ := Aside0.mk (blk_drew BK625.out)
     have n5_ := Aside0.mk (blk_drew BK638.out)
     have n6_ := Aside0.mk (below_drew1 HB.out)
     clear HO630
     clear HO633
     clear HO637
     clear HO641
     clear BK625
     clear BK638
     clear HB
     have HO630 := n0_
     have HO633 := n1_
     have HO637 := n2_
     have HO641 := n3_
     have BK625 := n4_
     have BK638 := n5_
     have HB := n6_
     clear n0_ n1_ n2_ n3_ n4_ n5_ n6_
     refine start_ (n := 5) (S := fun w' => w'.cell? ⟨gb638, 0, none⟩ = some (.int .i64 t634) ∧ w'.cell? ⟨gb638, 1, none⟩ = some (.slice Ao97 t635.length co97) ∧ w'.cell? ⟨gb625, 0, none⟩ = some (.int .i64 a0_0) ∧ w'.cell? ⟨gb625, 1, none⟩ = some (.slice A0_1 l0_1.length c0_1)) (ds := []) #[false, false, false, false, false] (by kernel_rfl) rfl rfl ⟨(bC8 BK638.out 0).trans rfl, (bC8 BK638.out 1).trans rfl, (bC8 BK625.out 0).trans rfl, (bC8 BK625.out 1).trans rfl⟩ (fun hHeld => ?_)
     generalize w98.drew = w101 at HO630 HO633 HO637 HO641 BK625 BK638 HB hHeld ⊢
     refine take_ (i := 0) (N := some 31) (v := ?_) (a' := ?_) #[true, false, false, false, false] rfl rfl (by kernel_rfl) (fun _ _ _ h => h) (Or.inl ⟨by rfl, ?_⟩) hHeld ?_ ?_
     rotate_left
     ·rintro w' ⟨s0, s1, s2, s3⟩
      go_simp
      with_reducible rfl
     rotate_left
     ·simp only [Act.put, List.setIfInBounds_toArray, List.set_cons_zero, List.set_cons_succ, i64_w, i32_w]
      rfl
     refine take_ (i := 1) (N := some 32) (v := ?_) (a' := ?_) #[true, true, false, false, false] rfl rfl (by kernel_rfl) (fun _ _ _ h => h) (Or.inl ⟨by rfl, ?_⟩) hHeld ?_ ?_
     rotate_left
     ·rintro w' ⟨s0, s1, s2, s3⟩
      go_simp
      with_reducible rfl
     rotate_left
     ·simp only [Act.put, List.setIfInBounds_toArray, List.set_cons_zero, List.set_cons_succ, i64_w, i32_w]
      rfl
     refine one_ (i := 2) (N := some 33) #[true, true, true, false, false] rfl rfl (by kernel_rfl) (by decide) (fun K hK => ?_)
     refine goes_ Try.func22 (by kernel_rfl) rfl #[.agg #[.int .i64 a0_0, .slice A0_1 l0_1.length c0_1]] (by rfl) rfl rfl na_ ?_
     with_reducible refine (laws_toNet.calls k a0_0 _ _ l0_1 t643 t644 _ ?side1 ?side2 A14.out).mono ?_
     (case side1 => exact nc_ (Kd.C_below HR0_1.out HB.out))
     (case side2 => exact HC0_1.out)
     rintro e w102 ⟨v645, rfl, ho0, hb⟩
     refine ⟨_, rfl, ?_⟩
     have n0_ := Aside0.mk (Kd.R_elder' (nr_ HO630.out) (Kd.R_base ho0) hb)
     have n1_ := Aside0.mk (rB8 (nr_ HO633.out) hb)
     have n2_ := Aside0.mk (Kd.R_elder' (nr_ HO637.out) (Kd.R_base ho0) hb)
     have n3_ := Aside0.mk (rB8 (nr_ HO641.out) hb)
     have n4_ := Aside0.mk (Kd.R_lower (Kd.R_new' (Kd.R_new' ho0 (Kd.R_lt (nr_ HO630.out))) (Kd.R_lt (nr_ HO637.out))) (eZ8 (ne_ HB.out)))
     have n5_ := Aside0.mk (bB8 (g := gb625) (o := .cells #[.int .i64 a0_0, .slice A0_1 l0_1.length c0_1] 39 (0, 0)) (nb_ BK625.out) hb)
     have n6_ := Aside0.mk (bB8 (g := gb638) (o := .cells #[.int .i64 t634, .slice Ao97 t635.length co97] 25 (0, 0)) (nb_ BK638.out) hb)
     have n7_ := Aside0.mk (eS8 (ne_ HB.out) hb)
     clear HO630
     clear HO633
     clear HO637
     clear HO641
     clear BK625
     clear BK638
     clear HB
     have HO630 := n0_
     have HO633 := n1_
     have HO637 := n2_
     have HO641 := n3_
     have HO646 := n4_
     have BK625 := n5_
     have BK638 := n6_
     have HB := n7_
     clear n0_ n1_ n2_ n3_ n4_ n5_ n6_ n7_
     (try clear hb)
     (try clear hb2)
     (try clear hk)
     (try clear hi)
     (try clear ho0)
     obtain ⟨Ao103, co103, eo103⟩ := Kd.R_slice HO646.out
     (first | subst eo103 | (injection eo103 with f1_ f2_ f3_; have f4_ := f1_.symm; have f5_ := f3_.symm; clear f1_ f2_ f3_; subst f4_; subst f5_))
     refine hK.out _ _ ⟨(bC8 BK638.out 0).trans rfl, (bC8 BK638.out 1).trans rfl, (bC8 BK625.out 0).trans rfl, (bC8 BK625.out 1).trans rfl⟩ (fun hHeld => ?_)
     clear hK K
     refine norm_ (a' := ?_) ?_ ?_
     rotate_left
     ·show Act.put _ (some 33) _ = _
      simp only [Act.put, List.setIfInBounds_toArray, List.set_cons_zero, List.set_cons_succ, i64_w, i32_w]
      rfl
     refine one_ (i := 3) (N := some 34) #[true, true, true, true, false] rfl rfl (by kernel_rfl) (by decide) (fun K hK => ?_)
     refine goes_ Try.func24 (by kernel_rfl) rfl #[.agg #[.int .i64 t634, .slice Ao97 t635.length co97], .agg #[.int .i64 t643, .slice Ao103 t644.length co103]] (by rfl) rfl rfl na_ ?_
     with_reducible refine (laws_eqNet.calls k t634 _ _ t635 t643 _ _ t644 false _ ?side1 ?side2 ?side3 ?side4 A15.out).mono ?_
     (case side1 => exact nc_ (rR8 HO637.out).2.2)
     (case side2 => exact (rR8 HO637.out).2.1)
     (case side3 => exact nc_ (rR8 HO646.out).2.2)
     (case side4 => exact (rR8 HO646.out).2.1)
     rintro e w104 ⟨rfl, hb⟩
     refine ⟨_, rfl, ?_⟩
     have n0_ := Aside0.mk (rB8 (nr_ HO630.out) hb)
     have n1_ := Aside0.mk (rB8 (nr_ HO633.out) hb)
     have n2_ := Aside0.mk (rB8 (nr_ HO637.out) hb)
     have n3_ := Aside0.mk (rB8 (nr_ HO641.out) hb)
     have n4_ := Aside0.mk (rB8 (nr_ HO646.out) hb)
     have n5_ := Aside0.mk (bB8 (g := gb625) (o := .cells #[.int .i64 a0_0, .slice A0_1 l0_1.length c0_1] 39 (0, 0)) (nb_ BK625.out) hb)
     have n6_ := Aside0.mk (bB8 (g := gb638) (o := .cells #[.int .i64 t634, .slice Ao97 t635.length co97] 25 (0, 0)) (nb_ BK638.out) hb)
     have n7_ := Aside0.mk (eS8 (ne_ HB.out) hb)
     clear HO630
     clear HO633
     clear HO637
     clear HO641
     clear HO646
     clear BK625
     clear BK638
     clear HB
     have HO630 := n0_
     have HO633 := n1_
     have HO637 := n2_
     have HO641 := n3_
     have HO646 := n4_
     have BK625 := n5_
     have BK638 := n6_
     have HB := n7_
     clear n0_ n1_ n2_ n3_ n4_ n5_ n6_ n7_
     (try clear hb)
     (try clear hb2)
     (try clear hk)
     (try clear hi)
     refine hK.out _ _ ⟨(bC8 BK638.out 0).trans rfl, (bC8 BK638.out 1).trans rfl, (bC8 BK625.out 0).trans rfl, (bC8 BK625.out 1).trans rfl⟩ (fun hHeld => ?_)
     clear hK K
     refine norm_ (a' := ?_) ?_ ?_
     rotate_left
     ·show Act.put _ (some 34) _ = _
      simp only [Act.put, List.setIfInBounds_toArray, List.set_cons_zero, List.set_cons_succ, i64_w, i32_w]
      rfl
     refine pure_ (i := 4) (N := some 35) (v := ?_) (a' := ?_) #[true, true, true, true, true] rfl rfl (by kernel_rfl) (fun _ _ _ h => h) (Or.inl ⟨by rfl, ?_⟩) ?_ ?_
     rotate_left
     ·intro w'
      go_simp
      with_reducible rfl
     rotate_left
     ·simp only [Act.put, List.setIfInBounds_toArray, List.set_cons_zero, List.set_cons_succ, i64_w, i32_w]
      rfl
     refine done_ (by kernel_rfl) ?_
     try go_wp2
     go_ret
     exact ⟨by first | rfl | (simp [errW_none, errW_some] <;> rfl) | (simp [*, errW_none, errW_some] <;> rfl), by repeat (first | (with_reducible first | exact HB.out | apply below_alloc | apply eN8 | apply below_drew1 | refine bS8 ?_ GE625.out | refine bS8 ?_ GE638.out) | exact HB.out)⟩
   ·replace c13 := Bool.eq_false_iff.mpr c13
    subst c13
    have H1 : (some false) = some r := by rw [if_neg (show ¬ (false = true) by decide)] at H; exact H
    clear H
    have H := H1
    clear H1
    obtain rfl := Option.some.inj H
    go_enter Try.func8, Try.ntmps8
    go_wp2_with (first | ((with_reducible refine gate_dst (N := 2) rfl ?_); refine box_event ?hg (N := 2) ?hd (cs := #[.int .i64 a0_0, .slice A0_1 l0_1.length c0_1]) (t := 39) ?hr ?_; (case hd => rfl); (case hg => rfl); (case hr => first | (go_simp; done) | (go_simp; rfl)); intro gb625 hg w105 hbox hb; have n0_ := Aside0.mk (eS8 (ne_ HB.out) hb); have n1_ := Aside0.mk (hbox); have n2_ := Aside0.mk ((by rw [hg]; exact (eZ8 (ne_ HB.out)) : w.heap.size ≤ gb625)); have n3_ := Aside0.mk ((by rw [hg]; exact (eZ8 (ne_ HB.out)) : w.heap.size ≤ gb625)); clear HB; have HB := n0_; have BK625 := n1_; have GW625 := n2_; have GE625 := n3_; clear n0_ n1_ n2_ n3_; clear hb hbox hg; have hcz106_0 : w105.cell? ⟨gb625, 0, none⟩ = some (.int .i64 a0_0) := (bC8 BK625.out 0).trans rfl; have hcz106_1 : w105.cell? ⟨gb625, 1, none⟩ = some (.slice A0_1 l0_1.length c0_1) := (bC8 BK625.out 1).trans rfl; have hfz106_0 := blk_frozen BK625.out 0; have hfz106_1 := blk_frozen BK625.out 1) | ((with_reducible refine gate_callee (f := 21) rfl ?_); refine goesL_ (some 15) rfl rfl Try.func21 (by kernel_rfl) rfl #[.agg #[.int .i64 a0_0, .slice A0_1 l0_1.length c0_1], .int .i64 1048576] rfl na_ ?_; (with_reducible refine (laws_szNet.calls a0_0 _ _ l0_1 1048576 t626 _ ?side1 ?side2 A3.out).mono ?_); (case side1 => exact nc_ (Kd.C_below HR0_1.out HB.out)); (case side2 => exact HC0_1.out); rintro e w107 ⟨rfl, hb⟩; refine ⟨_, rfl, ?_⟩; have n0_ := Aside0.mk (bB8 (g := gb625) (o := .cells #[.int .i64 a0_0, .slice A0_1 l0_1.length c0_1] 39 (0, 0)) (nb_ BK625.out) hb); have n1_ := Aside0.mk (eS8 (ne_ HB.out) hb); clear BK625; clear HB; have BK625 := n0_; have HB := n1_; clear n0_ n1_; (try clear hb); (try clear hb2); (try clear hk); (try clear hi); have hcz108_0 : w107.cell? ⟨gb625, 0, none⟩ = some (.int .i64 a0_0) := (bC8 BK625.out 0).trans rfl; have hcz108_1 : w107.cell? ⟨gb625, 1, none⟩ = some (.slice A0_1 l0_1.length c0_1) := (bC8 BK625.out 1).trans rfl; have hfz108_0 := blk_frozen BK625.out 0; have hfz108_1 := blk_frozen BK625.out 1) | ((with_reducible refine gate_callee (f := 22) rfl ?_); refine goesL_ (some 19) rfl rfl Try.func22 (by kernel_rfl) rfl #[.agg #[.int .i64 a0_0, .slice A0_1 l0_1.length c0_1]] rfl na_ ?_; (with_reducible refine (laws_toNet.calls k a0_0 _ _ l0_1 t627 t628 _ ?side1 ?side2 A8.out).mono ?_); (case side1 => exact nc_ (Kd.C_below HR0_1.out HB.out)); (case side2 => exact HC0_1.out); rintro e w109 ⟨v629, rfl, ho0, hb⟩; refine ⟨_, rfl, ?_⟩; have n0_ := Aside0.mk (Kd.R_lower ho0 (eZ8 (ne_ HB.out))); have n1_ := Aside0.mk (bB8 (g := gb625) (o := .cells #[.int .i64 a0_0, .slice A0_1 l0_1.length c0_1] 39 (0, 0)) (nb_ BK625.out) hb); have n2_ := Aside0.mk (eS8 (ne_ HB.out) hb); clear BK625; clear HB; have HO630 := n0_; have BK625 := n1_; have HB := n2_; clear n0_ n1_ n2_; (try clear hb); (try clear hb2); (try clear hk); (try clear hi); (try clear ho0); obtain ⟨Ao110, co110, eo110⟩ := Kd.R_slice HO630.out; subst eo110) | ((with_reducible refine gate_callee (f := 16) rfl ?_); refine goesL_ (some 21) rfl rfl Try.func16 (by kernel_rfl) rfl #[.agg #[.int .i64 t627, .slice Ao110 t628.length co110], .int .i64 a1] rfl na_ ?_; (with_reducible refine (spec_NearAll.calls k t627 _ _ t628 a1 t631 _ ?side1 ?side2 A9.out).mono ?_); (case side1 => exact nc_ (rR8 HO630.out).2.2); (case side2 => exact (rR8 HO630.out).2.1); rintro e w111 ⟨v632, rfl, ho0, hb⟩; refine ⟨_, rfl, ?_⟩; have n0_ := Aside0.mk (rB8 (nr_ HO630.out) hb); have n1_ := Aside0.mk (Kd.R_lower ho0 (eZ8 (ne_ HB.out))); have n2_ := Aside0.mk (bB8 (g := gb625) (o := .cells #[.int .i64 a0_0, .slice A0_1 l0_1.length c0_1] 39 (0, 0)) (nb_ BK625.out) hb); have n3_ := Aside0.mk (eS8 (ne_ HB.out) hb); clear HO630; clear BK625; clear HB; have HO630 := n0_; have HO633 := n1_; have BK625 := n2_; have HB := n3_; clear n0_ n1_ n2_ n3_; (try clear hb); (try clear hb2); (try clear hk); (try clear hi); (try clear ho0); have hcz112_0 : w111.cell? ⟨gb625, 0, none⟩ = some (.int .i64 a0_0) := (bC8 BK625.out 0).trans rfl; have hcz112_1 : w111.cell? ⟨gb625, 1, none⟩ = some (.slice A0_1 l0_1.length c0_1) := (bC8 BK625.out 1).trans rfl; have hfz112_0 := blk_frozen BK625.out 0; have hfz112_1 := blk_frozen BK625.out 1) | ((with_reducible refine gate_callee (f := 22) rfl ?_); refine goesL_ (some 23) rfl rfl Try.func22 (by kernel_rfl) rfl #[.agg #[.int .i64 a0_0, .slice A0_1 l0_1.length c0_1]] rfl na_ ?_; (with_reducible refine (laws_toNet.calls k a0_0 _ _ l0_1 t634 t635 _ ?side1 ?side2 A10.out).mono ?_); (case side1 => exact nc_ (Kd.C_below HR0_1.out HB.out)); (case side2 => exact HC0_1.out); rintro e w113 ⟨v636, rfl, ho0, hb⟩; refine ⟨_, rfl, ?_⟩; have n0_ := Aside0.mk (Kd.R_elder' (nr_ HO630.out) (Kd.R_base ho0) hb); have n1_ := Aside0.mk (rB8 (nr_ HO633.out) hb); have n2_ := Aside0.mk (Kd.R_lower (Kd.R_new' ho0 (Kd.R_lt (nr_ HO630.out))) (eZ8 (ne_ HB.out))); have n3_ := Aside0.mk (bB8 (g := gb625) (o := .cells #[.int .i64 a0_0, .slice A0_1 l0_1.length c0_1] 39 (0, 0)) (nb_ BK625.out) hb); have n4_ := Aside0.mk (eS8 (ne_ HB.out) hb); clear HO630; clear HO633; clear BK625; clear HB; have HO630 := n0_; have HO633 := n1_; have HO637 := n2_; have BK625 := n3_; have HB := n4_; clear n0_ n1_ n2_ n3_ n4_; (try clear hb); (try clear hb2); (try clear hk); (try clear hi); (try clear ho0)) | ((with_reducible refine gate_dst (N := 7) rfl ?_); refine box_event ?hg (N := 7) ?hd (cs := #[.int .i64 0, .slice none 0 0]) (t := 25) ?hr ?_; (case hd => rfl); (case hg => rfl); (case hr => first | (go_simp; done) | (go_simp; rfl)); intro gb638 hg w114 hbox hb; have n0_ := Aside0.mk (rB8 (nr_ HO630.out) hb); have n1_ := Aside0.mk (rB8 (nr_ HO633.out) hb); have n2_ := Aside0.mk (rB8 (nr_ HO637.out) hb); have n3_ := Aside0.mk (bB8 (g := gb625) (o := .cells #[.int .i64 a0_0, .slice A0_1 l0_1.length c0_1] 39 (0, 0)) (nb_ BK625.out) hb); have n4_ := Aside0.mk (eS8 (ne_ HB.out) hb); have n5_ := Aside0.mk (hbox); have n6_ := Aside0.mk ((by rw [hg]; exact (eZ8 (ne_ HB.out)) : w.heap.size ≤ gb638)); have n7_ := Aside0.mk ((by rw [hg]; exact (eZ8 (ne_ HB.out)) : w.heap.size ≤ gb638)); have n8_ := Aside0.mk ((by rw [hg]; exact Nat.ne_of_lt (blk_lt (g := gb625) (o := .cells #[.int .i64 a0_0, .slice A0_1 l0_1.length c0_1] 39 (0, 0)) (nb_ BK625.out)) : gb625 ≠ gb638)); have n9_ := Aside0.mk ((by rw [hg]; exact Nat.ne_of_gt (blk_lt (g := gb625) (o := .cells #[.int .i64 a0_0, .slice A0_1 l0_1.length c0_1] 39 (0, 0)) (nb_ BK625.out)) : gb638 ≠ gb625)); clear HO630; clear HO633; clear HO637; clear BK625; clear HB; have HO630 := n0_; have HO633 := n1_; have HO637 := n2_; have BK625 := n3_; have HB := n4_; have BK638 := n5_; have GW638 := n6_; have GE638 := n7_; have NB625_638 := n8_; have NB638_625 := n9_; clear n0_ n1_ n2_ n3_ n4_ n5_ n6_ n7_ n8_ n9_; clear hb hbox hg; have hnb115 := NB638_625.out; have hnc115 := NB625_638.out; have hcz116_0 : w114.cell? ⟨gb638, 0, none⟩ = some (.int .i64 0) := (bC8 BK638.out 0).trans rfl; have hcz116_1 : w114.cell? ⟨gb638, 1, none⟩ = some (.slice none 0 0) := (bC8 BK638.out 1).trans rfl; have hfz116_0 := blk_frozen BK638.out 0; have hfz116_1 := blk_frozen BK638.out 1; obtain ⟨Ao117, co117, eo117⟩ := Kd.R_slice HO637.out; subst eo117) | ((with_reducible refine gate_callee (f := 14) rfl ?_); refine goesL_ (some 26) rfl rfl Try.func14 (by kernel_rfl) rfl #[.agg #[.int .i64 t634, .slice Ao117 t635.length co117], .int .i64 a1] rfl na_ ?_; (with_reducible refine (impl_NearAll.calls k t634 _ _ t635 a1 t639 _ ?side1 ?side2 A11.out).mono ?_); (case side1 => refine (rR8 (e := 33) (base := w.heap.size) (ok := fun k_ => (True ∧ some k_ ≠ (.slice Ao110 t628.length co110 : Value).ownBlock)) (n := t635.length) (c := co117) ?_).2.2; exact (by (with_reducible repeat (first | apply rA8 | apply rN8 | apply rD8)); exact (Kd.R_mono (Kd.R_far (p := ⟨gb638, 1, none⟩) (Kd.R_far (p := ⟨gb638, 0, none⟩) (Kd.R_types HO637.out BK638.out (by decide)) (fun _ hk => hk.2) (.int .i64 t634)) (fun _ hk => hk.2) (.slice Ao117 t635.length co117)) (fun _ h_ => h_.1)))); (case side2 => exact (rR8 HO637.out).2.1); rintro e w118 ⟨v640, rfl, ho0, hb⟩; refine ⟨_, rfl, ?_⟩; have n0_ := Aside0.mk (rB8 (by (with_reducible repeat (first | apply rA8 | apply rN8 | apply rD8)); exact (Kd.R_mono (Kd.R_far (p := ⟨gb638, 1, none⟩) (Kd.R_far (p := ⟨gb638, 0, none⟩) (Kd.R_types HO630.out BK638.out (by decide)) (fun _ hk => hk.2) (.int .i64 t634)) (fun _ hk => hk.2) (.slice Ao117 t635.length co117)) (fun _ h_ => h_.1))) hb); have n1_ := Aside0.mk (Kd.R_elder' (by (with_reducible repeat (first | apply rA8 | apply rN8 | apply rD8)); exact (Kd.R_mono (Kd.R_far (p := ⟨gb638, 1, none⟩) (Kd.R_far (p := ⟨gb638, 0, none⟩) (Kd.R_types HO633.out BK638.out (by decide)) (fun _ hk => hk.2) (.int .i64 t634)) (fun _ hk => hk.2) (.slice Ao117 t635.length co117)) (fun _ h_ => h_.1))) (Kd.R_base ho0) hb); have n2_ := Aside0.mk (rB8 (by (with_reducible repeat (first | apply rA8 | apply rN8 | apply rD8)); exact (Kd.R_mono (Kd.R_far (p := ⟨gb638, 1, none⟩) (Kd.R_far (p := ⟨gb638, 0, none⟩) (Kd.R_types HO637.out BK638.out (by decide)) (fun _ hk => hk.2) (.int .i64 t634)) (fun _ hk => hk.2) (.slice Ao117 t635.length co117)) (fun _ h_ => h_.1))) hb); have n3_ := Aside0.mk (Kd.R_lower (Kd.R_new' ho0 (Kd.R_lt (by (with_reducible repeat (first | apply rA8 | apply rN8 | apply rD8)); exact (Kd.R_mono (Kd.R_far (p := ⟨gb638, 1, none⟩) (Kd.R_far (p := ⟨gb638, 0, none⟩) (Kd.R_types HO633.out BK638.out (by decide)) (fun _ hk => hk.2) (.int .i64 t634)) (fun _ hk => hk.2) (.slice Ao117 t635.length co117)) (fun _ h_ => h_.1))))) (eZ8 (ne_ HB.out))); have n4_ := Aside0.mk (bB8 (g := gb625) (o := .cells #[.int .i64 a0_0, .slice A0_1 l0_1.length c0_1] 39 (0, 0)) (nbf_ BK625.out) hb); have n5_ := Aside0.mk (bB8 (g := gb638) (o := .cells #[.int .i64 t634, .slice Ao117 t635.length co117] 25 (0, 0)) (by (with_reducible repeat (first | refine blk_drewN ?_ _ | refine blk_drew ?_ | refine blk_alloc ?_ _)); refine blk_put (cs := #[.int .i64 t634, .slice none 0 0]) ?_ 1 _ rfl; (with_reducible repeat (first | refine blk_drewN ?_ _ | refine blk_drew ?_ | refine blk_alloc ?_ _)); refine blk_put (cs := #[.int .i64 0, .slice none 0 0]) ?_ 0 _ rfl; (with_reducible repeat (first | refine blk_drewN ?_ _ | refine blk_drew ?_ | refine blk_alloc ?_ _)); exact BK638.out) hb); have n6_ := Aside0.mk (eS8 (ne_ HB.out) hb); clear HO630; clear HO633; clear HO637; clear BK625; clear BK638; clear HB; have HO630 := n0_; have HO633 := n1_; have HO637 := n2_; have HO641 := n3_; have BK625 := n4_; have BK638 := n5_; have HB := n6_; clear n0_ n1_ n2_ n3_ n4_ n5_ n6_; (try clear hb); (try clear hb2); (try clear hk); (try clear hi); (try clear ho0); obtain ⟨Ao119, co119, eo119⟩ := Kd.R_slice HO641.out; subst eo119; obtain ⟨Ao120, co120, eo120⟩ := Kd.R_slice HO633.out; subst eo120) | ((with_reducible refine gate_callee (f := 23) rfl ?_); refine goesL_ (some 29) rfl rfl Try.func23 (by kernel_rfl) rfl #[.slice Ao119 t639.length co119, .slice Ao120 t631.length co120] rfl na_ ?_; (with_reducible refine (laws_eqIntS.calls k _ _ t639 _ _ t631 false _ ?side1 ?side2 ?side3 ?side4 A12.out).mono ?_); (case side1 => exact nc_ (rR8 HO641.out).2.2); (case side2 => exact (rR8 HO641.out).2.1); (case side3 => exact nc_ (rR8 HO633.out).2.2); (case side4 => exact (rR8 HO633.out).2.1); rintro e w' ⟨rfl, ⟨nd, rfl⟩⟩; refine ⟨_, rfl, ?_⟩))
    go_ret
    exact ⟨by first | rfl | (simp [errW_none, errW_some] <;> rfl) | (simp [*, errW_none, errW_some] <;> rfl), by repeat (first | (with_reducible first | exact HB.out | apply below_alloc | apply eN8 | apply below_drew1 | refine bS8 ?_ GE625.out | refine bS8 ?_ GE638.out) | exact HB.out)⟩

/-- THE ONE PURE STATEMENT of laws_FnExactNearAll. -/
def laws_FnExactNearAll.Pure : Prop := ∀ (a0_0 : Int) (l0_1 : List (S84)) (a1 : Int), (Lit.int .i64 a0_0).wf = true → l0_1.length ≤ maxLen → (∀ x ∈ l0_1, (Lit.int .i64 x.f0).wf = true ∧ (Lit.int .i64 x.f1).wf = true ∧ (Lit.int .i64 x.f2).wf = true ∧ (Lit.int .i64 x.f3).wf = true ∧ (Lit.int .i64 x.f4).wf = true) → (Lit.int .i64 a1).wf = true → ∃ k, laws_FnExactNearAll.f k a0_0 l0_1 a1 = some true
theorem laws_FnExactNearAll.walk (P : laws_FnExactNearAll.Pure) (a0_0 : Int) (A0_1 : Option Addr) (c0_1 : Nat) (l0_1 : List (S84)) (a1 : Int) (w : World) (hw0_0 : (Lit.int .i64 a0_0).wf = true) (hr0_1 : Kd.C k84 w A0_1 l0_1.length l0_1) (hm0_1 : l0_1.length ≤ maxLen) (hw0_1 : ∀ x ∈ l0_1, (Lit.int .i64 x.f0).wf = true ∧ (Lit.int .i64 x.f1).wf = true ∧ (Lit.int .i64 x.f2).wf = true ∧ (Lit.int .i64 x.f3).wf = true ∧ (Lit.int .i64 x.f4).wf = true) (hc0_1 : l0_1.length ≤ c0_1) (hw1 : (Lit.int .i64 a1).wf = true) :
    Calls Try.prog 8 #[.agg #[.int .i64 a0_0, .slice A0_1 l0_1.length c0_1], .int .i64 a1] w fun e w' => e = .returned (.bool true) ∧ Below w.heap.size w w' := by
  obtain ⟨k, h⟩ := P a0_0 l0_1 a1 hw0_0 hm0_1 hw0_1 hw1
  refine (laws_FnExactNearAll.calls k a0_0 A0_1 c0_1 l0_1 a1 true w hr0_1 hc0_1 h).mono ?_
  rintro e w' ⟨rfl, hd⟩
  exact ⟨rfl, hd⟩

end Go.Proofs.Ytbmoonciggfbpaa.Print
