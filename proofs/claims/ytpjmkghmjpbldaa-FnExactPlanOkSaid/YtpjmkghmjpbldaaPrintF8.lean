-- Made by this session's own program (wip/patch_print.py, over the kit's print). Lean checks it.
import Derived.Test.YtpjmkghmjpbldaaPrint0
import Derived.Test.YtpjmkghmjpbldaaPrintB
import Derived.Test.YtpjmkghmjpbldaaPrintF38
import Derived.Test.YtpjmkghmjpbldaaPrintF39
import Derived.Test.YtpjmkghmjpbldaaPrintF40
import Derived.Test.YtpjmkghmjpbldaaPrintF41
namespace Go.Proofs.Ytpjmkghmjpbldaa.Print
open Go.RowKit Go.Proofs.YtpjmkghmjpbldaaW.PrintWords Go.Proofs.YtpjmkghmjpbldaaW.PrintLast Go.Proofs.YtpjmkghmjpbldaaW.PrintMore Go.Proofs.YtpjmkghmjpbldaaX
attribute [local go_sem] max2_int min2_int max_two min_two max_three min_three max_four min_four   -- for this text's walks alone
set_option linter.unusedVariables false
set_option linter.unusedSimpArgs false

abbrev bC8 := @blk_cell
/-! ### laws_FnExactPlanOk: function 8 -/
def laws_FnExactPlanOk.f (k : Nat) (a0_0 : Int) (a0_1 : Int) (l0_2 : List (S109)) : Option (Bool) := (laws_szPlan.f a0_0 a0_1 l0_2 1048576).bind fun t540 => (if t540 < 0 then (some true) else ((laws_toPlan.f k a0_0 a0_1 l0_2).bind fun bt541 => ((spec_PlanOk.f k bt541.1 bt541.2.1 bt541.2.2).bind fun t546 => ((laws_toPlan.f k a0_0 a0_1 l0_2).bind fun bt547 => ((impl_PlanOk.f k bt547.1 bt547.2.1 bt547.2.2).bind fun t553 => (if (t553 != t546) = true then (some false) else ((laws_toPlan.f k a0_0 a0_1 l0_2).bind fun bt554 => ((laws_eqPlan.f k bt547.1 bt547.2.1 bt547.2.2 bt554.1 bt554.2.1 bt554.2.2).bind fun t559 => (if t559 = true then (some true) else (some false))))))))))
theorem laws_FnExactPlanOk.mono : ∀ a0 a1 a2 k, LeO (laws_FnExactPlanOk.f k a0 a1 a2) (laws_FnExactPlanOk.f (k + 1) a0 a1 a2) := by
  intro a0 a1 a2 k
  unfold laws_FnExactPlanOk.f
  repeat' first
      | (with_reducible exact impl_PlanOk.mono _ _ _ _)
      | (with_reducible exact laws_eqPlan.mono _ _ _ _ _ _ _)
      | (with_reducible exact laws_toPlan.mono _ _ _ _)
      | (with_reducible exact spec_PlanOk.mono _ _ _ _)
      | (with_reducible exact LeO.refl _)
      | (with_reducible exact LeO.none _)
      | (with_reducible refine LeO.ite ?_ ?_)
      | (with_reducible refine LeO.bind ?_ (fun _ => ?_))
      | exact impl_PlanOk.mono _ _ _ _
      | exact laws_eqPlan.mono _ _ _ _ _ _ _
      | exact laws_toPlan.mono _ _ _ _
      | exact spec_PlanOk.mono _ _ _ _
      | exact LeO.none _
      | refine LeO.ite ?_ ?_
      | refine LeO.bind ?_ (fun _ => ?_)
set_option maxHeartbeats 8000000 in
set_option maxRecDepth 100000 in
theorem laws_FnExactPlanOk.calls (k : Nat) (a0_0 : Int) (a0_1 : Int) (A0_2 : Option Addr) (c0_2 : Nat) (l0_2 : List (S109)) (r : Bool) (w : World) (hr0_2 : Kd.C k109 w A0_2 l0_2.length l0_2) (hc0_2 : l0_2.length ≤ c0_2) (h : laws_FnExactPlanOk.f k a0_0 a0_1 l0_2 = some r) :
    Calls Try.prog 8 #[.agg #[.int .i64 a0_0, .int .i64 a0_1, .slice A0_2 l0_2.length c0_2]] w fun e w' => e = .returned (.bool r) ∧ Below w.heap.size w w' := by
  have hu49 := Try.underlying49
  have hu54 := Try.underlying54
  have HR0_2 := Aside0.mk hr0_2
  have HC0_2 := Aside0.mk hc0_2
  clear hr0_2 hc0_2
  have HB := Aside0.mk (Below.refl w.heap.size w)
  have H : ((laws_szPlan.f a0_0 a0_1 l0_2 1048576).bind fun t540 => (if t540 < 0 then (some true) else ((laws_toPlan.f k a0_0 a0_1 l0_2).bind fun bt541 => ((spec_PlanOk.f k bt541.1 bt541.2.1 bt541.2.2).bind fun t546 => ((laws_toPlan.f k a0_0 a0_1 l0_2).bind fun bt547 => ((impl_PlanOk.f k bt547.1 bt547.2.1 bt547.2.2).bind fun t553 => (if (t553 != t546) = true then (some false) else ((laws_toPlan.f k a0_0 a0_1 l0_2).bind fun bt554 => ((laws_eqPlan.f k bt547.1 bt547.2.1 bt547.2.2 bt554.1 bt554.2.1 bt554.2.2).bind fun t559 => (if t559 = true then (some true) else (some false))))))))))) = some r := h
  clear h
  replace H := Option.bind_eq_some_iff.mp H
  obtain ⟨t540, A20, H⟩ := H
  replace H : (if t540 < 0 then (some true) else ((laws_toPlan.f k a0_0 a0_1 l0_2).bind fun bt541 => ((spec_PlanOk.f k bt541.1 bt541.2.1 bt541.2.2).bind fun t546 => ((laws_toPlan.f k a0_0 a0_1 l0_2).bind fun bt547 => ((impl_PlanOk.f k bt547.1 bt547.2.1 bt547.2.2).bind fun t553 => (if (t553 != t546) = true then (some false) else ((laws_toPlan.f k a0_0 a0_1 l0_2).bind fun bt554 => ((laws_eqPlan.f k bt547.1 bt547.2.1 bt547.2.2 bt554.1 bt554.2.1 bt554.2.2).bind fun t559 => (if t559 = true then (some true) else (some false)))))))))) = some r := H
  have A2 := Aside0.mk A20
  clear A20
  by_cases c3 : t540 < 0
  ·rw [if_pos c3] at H
   have c3b0 : decide (t540 < 0) = true := decide_eq_true c3
   clear c3
   obtain rfl := Option.some.inj H
   go_enter Try.func8, Try.ntmps8
   go_wp2_with (first | ((with_reducible refine gate_dst (N := 1) rfl ?_); refine box_event ?hg (N := 1) ?hd (cs := #[.int .i64 a0_0, .int .i64 a0_1, .slice A0_2 l0_2.length c0_2]) (t := 49) ?hr ?_; (case hd => rfl); (case hg => rfl); (case hr => first | (go_simp; done) | (go_simp; rfl)); intro gb539 hg w4 hbox hb; have n0_ := Aside0.mk (below_step (ne_ HB.out) hb); have n1_ := Aside0.mk (hbox); have n2_ := Aside0.mk ((by rw [hg]; exact (below_size (ne_ HB.out)) : w.heap.size ≤ gb539)); have n3_ := Aside0.mk ((by rw [hg]; exact (below_size (ne_ HB.out)) : w.heap.size ≤ gb539)); clear HB; have HB := n0_; have BK539 := n1_; have GW539 := n2_; have GE539 := n3_; clear n0_ n1_ n2_ n3_; clear hb hbox hg; have hcz5_0 : w4.cell? ⟨gb539, 0, none⟩ = some (.int .i64 a0_0) := (bC8 BK539.out 0).trans rfl; have hcz5_1 : w4.cell? ⟨gb539, 1, none⟩ = some (.int .i64 a0_1) := (bC8 BK539.out 1).trans rfl; have hcz5_2 : w4.cell? ⟨gb539, 2, none⟩ = some (.slice A0_2 l0_2.length c0_2) := (bC8 BK539.out 2).trans rfl; have hfz5_0 := blk_frozen BK539.out 0; have hfz5_1 := blk_frozen BK539.out 1; have hfz5_2 := blk_frozen BK539.out 2) | ((with_reducible refine gate_callee (f := 37) rfl ?_); refine goesL_ (some 9) rfl rfl Try.func37 (by kernel_rfl) rfl #[.agg #[.int .i64 a0_0, .int .i64 a0_1, .slice A0_2 l0_2.length c0_2], .int .i64 1048576] rfl na_ ?_; (with_reducible refine (laws_szPlan.calls a0_0 a0_1 _ _ l0_2 1048576 t540 _ ?side1 ?side2 A2.out).mono ?_); (case side1 => exact nc_ (Kd.C_below HR0_2.out HB.out)); (case side2 => exact HC0_2.out); rintro e w6 ⟨rfl, hb⟩; refine ⟨_, rfl, ?_⟩; have n0_ := Aside0.mk (blk_below (g := gb539) (o := .cells #[.int .i64 a0_0, .int .i64 a0_1, .slice A0_2 l0_2.length c0_2] 49 (0, 0)) (nb_ BK539.out) hb); have n1_ := Aside0.mk (below_step (ne_ HB.out) hb); clear BK539; clear HB; have BK539 := n0_; have HB := n1_; clear n0_ n1_; (try clear hb); (try clear hb2); (try clear hk); (try clear hi)))
   go_ret
   exact ⟨by first | rfl | (simp [errW_none, errW_some] <;> rfl) | (simp [*, errW_none, errW_some] <;> rfl), by repeat (first | (with_reducible first | exact HB.out | apply below_alloc | apply pw_below_drewN | apply below_drew1 | refine below_set ?_ GE539.out) | exact HB.out)⟩
  ·rw [if_neg c3] at H
   have c3b0 : decide (t540 < 0) = false := decide_eq_false c3
   clear c3
   replace H := Option.bind_eq_some_iff.mp H
   obtain ⟨⟨t541, t542, t543⟩, A70, H⟩ := H
   replace H : ((spec_PlanOk.f k t541 t542 t543).bind fun t546 => ((laws_toPlan.f k a0_0 a0_1 l0_2).bind fun bt547 => ((impl_PlanOk.f k bt547.1 bt547.2.1 bt547.2.2).bind fun t553 => (if (t553 != t546) = true then (some false) else ((laws_toPlan.f k a0_0 a0_1 l0_2).bind fun bt554 => ((laws_eqPlan.f k bt547.1 bt547.2.1 bt547.2.2 bt554.1 bt554.2.1 bt554.2.2).bind fun t559 => (if t559 = true then (some true) else (some false)))))))) = some r := H
   have A7 := Aside0.mk A70
   clear A70
   replace H := Option.bind_eq_some_iff.mp H
   obtain ⟨t546, A80, H⟩ := H
   replace H : ((laws_toPlan.f k a0_0 a0_1 l0_2).bind fun bt547 => ((impl_PlanOk.f k bt547.1 bt547.2.1 bt547.2.2).bind fun t553 => (if (t553 != t546) = true then (some false) else ((laws_toPlan.f k a0_0 a0_1 l0_2).bind fun bt554 => ((laws_eqPlan.f k bt547.1 bt547.2.1 bt547.2.2 bt554.1 bt554.2.1 bt554.2.2).bind fun t559 => (if t559 = true then (some true) else (some false))))))) = some r := H
   have A8 := Aside0.mk A80
   clear A80
   replace H := Option.bind_eq_some_iff.mp H
   obtain ⟨⟨t547, t548, t549⟩, A90, H⟩ := H
   replace H : ((impl_PlanOk.f k t547 t548 t549).bind fun t553 => (if (t553 != t546) = true then (some false) else ((laws_toPlan.f k a0_0 a0_1 l0_2).bind fun bt554 => ((laws_eqPlan.f k t547 t548 t549 bt554.1 bt554.2.1 bt554.2.2).bind fun t559 => (if t559 = true then (some true) else (some false)))))) = some r := H
   have A9 := Aside0.mk A90
   clear A90
   replace H := Option.bind_eq_some_iff.mp H
   obtain ⟨t553, A100, H⟩ := H
   replace H : (if (t553 != t546) = true then (some false) else ((laws_toPlan.f k a0_0 a0_1 l0_2).bind fun bt554 => ((laws_eqPlan.f k t547 t548 t549 bt554.1 bt554.2.1 bt554.2.2).bind fun t559 => (if t559 = true then (some true) else (some false))))) = some r := H
   have A10 := Aside0.mk A100
   clear A100
   by_cases c11 : (t553 != t546) = true
   ·rw [if_pos c11] at H
    have c11b0 : (t553 != t546) = true := c11
    (try (have c11b1 : decide (t553 = t546) = false := by simpa using c11))
    (try (have c11b2 : (t553 == t546) = false := by simpa using c11))
    (try (have c11b3 : ¬ (t553 = t546) := by simpa using c11))
    clear c11
    obtain rfl := Option.some.inj H
    go_enter Try.func8, Try.ntmps8
    go_wp2_with (first | ((with_reducible refine gate_dst (N := 1) rfl ?_); refine box_event ?hg (N := 1) ?hd (cs := #[.int .i64 a0_0, .int .i64 a0_1, .slice A0_2 l0_2.length c0_2]) (t := 49) ?hr ?_; (case hd => rfl); (case hg => rfl); (case hr => first | (go_simp; done) | (go_simp; rfl)); intro gb539 hg w12 hbox hb; have n0_ := Aside0.mk (below_step (ne_ HB.out) hb); have n1_ := Aside0.mk (hbox); have n2_ := Aside0.mk ((by rw [hg]; exact (below_size (ne_ HB.out)) : w.heap.size ≤ gb539)); have n3_ := Aside0.mk ((by rw [hg]; exact (below_size (ne_ HB.out)) : w.heap.size ≤ gb539)); clear HB; have HB := n0_; have BK539 := n1_; have GW539 := n2_; have GE539 := n3_; clear n0_ n1_ n2_ n3_; clear hb hbox hg; have hcz13_0 : w12.cell? ⟨gb539, 0, none⟩ = some (.int .i64 a0_0) := (bC8 BK539.out 0).trans rfl; have hcz13_1 : w12.cell? ⟨gb539, 1, none⟩ = some (.int .i64 a0_1) := (bC8 BK539.out 1).trans rfl; have hcz13_2 : w12.cell? ⟨gb539, 2, none⟩ = some (.slice A0_2 l0_2.length c0_2) := (bC8 BK539.out 2).trans rfl; have hfz13_0 := blk_frozen BK539.out 0; have hfz13_1 := blk_frozen BK539.out 1; have hfz13_2 := blk_frozen BK539.out 2) | ((with_reducible refine gate_callee (f := 37) rfl ?_); refine goesL_ (some 9) rfl rfl Try.func37 (by kernel_rfl) rfl #[.agg #[.int .i64 a0_0, .int .i64 a0_1, .slice A0_2 l0_2.length c0_2], .int .i64 1048576] rfl na_ ?_; (with_reducible refine (laws_szPlan.calls a0_0 a0_1 _ _ l0_2 1048576 t540 _ ?side1 ?side2 A2.out).mono ?_); (case side1 => exact nc_ (Kd.C_below HR0_2.out HB.out)); (case side2 => exact HC0_2.out); rintro e w14 ⟨rfl, hb⟩; refine ⟨_, rfl, ?_⟩; have n0_ := Aside0.mk (blk_below (g := gb539) (o := .cells #[.int .i64 a0_0, .int .i64 a0_1, .slice A0_2 l0_2.length c0_2] 49 (0, 0)) (nb_ BK539.out) hb); have n1_ := Aside0.mk (below_step (ne_ HB.out) hb); clear BK539; clear HB; have BK539 := n0_; have HB := n1_; clear n0_ n1_; (try clear hb); (try clear hb2); (try clear hk); (try clear hi); have hcz15_0 : w14.cell? ⟨gb539, 0, none⟩ = some (.int .i64 a0_0) := (bC8 BK539.out 0).trans rfl; have hcz15_1 : w14.cell? ⟨gb539, 1, none⟩ = some (.int .i64 a0_1) := (bC8 BK539.out 1).trans rfl; have hcz15_2 : w14.cell? ⟨gb539, 2, none⟩ = some (.slice A0_2 l0_2.length c0_2) := (bC8 BK539.out 2).trans rfl; have hfz15_0 := blk_frozen BK539.out 0; have hfz15_1 := blk_frozen BK539.out 1; have hfz15_2 := blk_frozen BK539.out 2) | ((with_reducible refine gate_callee (f := 39) rfl ?_); refine goesL_ (some 13) rfl rfl Try.func39 (by kernel_rfl) rfl #[.agg #[.int .i64 a0_0, .int .i64 a0_1, .slice A0_2 l0_2.length c0_2]] rfl na_ ?_; (with_reducible refine (laws_toPlan.calls k a0_0 a0_1 _ _ l0_2 t541 t542 t543 _ ?side1 ?side2 A7.out).mono ?_); (case side1 => exact nc_ (Kd.C_below HR0_2.out HB.out)); (case side2 => exact HC0_2.out); rintro e w16 ⟨v544, rfl, ho0, hb⟩; refine ⟨_, rfl, ?_⟩; have n0_ := Aside0.mk (Kd.R_lower ho0 (below_size (ne_ HB.out))); have n1_ := Aside0.mk (blk_below (g := gb539) (o := .cells #[.int .i64 a0_0, .int .i64 a0_1, .slice A0_2 l0_2.length c0_2] 49 (0, 0)) (nb_ BK539.out) hb); have n2_ := Aside0.mk (below_step (ne_ HB.out) hb); clear BK539; clear HB; have HO545 := n0_; have BK539 := n1_; have HB := n2_; clear n0_ n1_ n2_; (try clear hb); (try clear hb2); (try clear hk); (try clear hi); (try clear ho0); obtain ⟨Ao17, co17, eo17⟩ := Kd.R_slice HO545.out; subst eo17) | ((with_reducible refine gate_callee (f := 38) rfl ?_); refine goesL_ (some 14) rfl rfl Try.func38 (by kernel_rfl) rfl #[.agg #[.int .i64 t541, .int .i64 t542, .slice Ao17 t543.length co17]] rfl na_ ?_; (with_reducible refine (spec_PlanOk.calls k t541 t542 _ _ t543 t546 _ ?side1 ?side2 A8.out).mono ?_); (case side1 => exact nc_ (Kd.R_reads' HO545.out).2.2); (case side2 => exact (Kd.R_reads' HO545.out).2.1); rintro e w18 ⟨rfl, hb⟩; refine ⟨_, rfl, ?_⟩; have n0_ := Aside0.mk (Kd.R_below (nr_ HO545.out) hb); have n1_ := Aside0.mk (blk_below (g := gb539) (o := .cells #[.int .i64 a0_0, .int .i64 a0_1, .slice A0_2 l0_2.length c0_2] 49 (0, 0)) (nb_ BK539.out) hb); have n2_ := Aside0.mk (below_step (ne_ HB.out) hb); clear HO545; clear BK539; clear HB; have HO545 := n0_; have BK539 := n1_; have HB := n2_; clear n0_ n1_ n2_; (try clear hb); (try clear hb2); (try clear hk); (try clear hi); have hcz19_0 : w18.cell? ⟨gb539, 0, none⟩ = some (.int .i64 a0_0) := (bC8 BK539.out 0).trans rfl; have hcz19_1 : w18.cell? ⟨gb539, 1, none⟩ = some (.int .i64 a0_1) := (bC8 BK539.out 1).trans rfl; have hcz19_2 : w18.cell? ⟨gb539, 2, none⟩ = some (.slice A0_2 l0_2.length c0_2) := (bC8 BK539.out 2).trans rfl; have hfz19_0 := blk_frozen BK539.out 0; have hfz19_1 := blk_frozen BK539.out 1; have hfz19_2 := blk_frozen BK539.out 2) | ((with_reducible refine gate_callee (f := 39) rfl ?_); refine goesL_ (some 16) rfl rfl Try.func39 (by kernel_rfl) rfl #[.agg #[.int .i64 a0_0, .int .i64 a0_1, .slice A0_2 l0_2.length c0_2]] rfl na_ ?_; (with_reducible refine (laws_toPlan.calls k a0_0 a0_1 _ _ l0_2 t547 t548 t549 _ ?side1 ?side2 A9.out).mono ?_); (case side1 => exact nc_ (Kd.C_below HR0_2.out HB.out)); (case side2 => exact HC0_2.out); rintro e w20 ⟨v550, rfl, ho0, hb⟩; refine ⟨_, rfl, ?_⟩; have n0_ := Aside0.mk (Kd.R_elder' (nr_ HO545.out) (Kd.R_base ho0) hb); have n1_ := Aside0.mk (Kd.R_lower (Kd.R_new' ho0 (Kd.R_lt (nr_ HO545.out))) (below_size (ne_ HB.out))); have n2_ := Aside0.mk (blk_below (g := gb539) (o := .cells #[.int .i64 a0_0, .int .i64 a0_1, .slice A0_2 l0_2.length c0_2] 49 (0, 0)) (nb_ BK539.out) hb); have n3_ := Aside0.mk (below_step (ne_ HB.out) hb); clear HO545; clear BK539; clear HB; have HO545 := n0_; have HO551 := n1_; have BK539 := n2_; have HB := n3_; clear n0_ n1_ n2_ n3_; (try clear hb); (try clear hb2); (try clear hk); (try clear hi); (try clear ho0)) | ((with_reducible refine gate_dst (N := 5) rfl ?_); refine box_event ?hg (N := 5) ?hd (cs := #[.int .i64 0, .int .i64 0, .slice none 0 0]) (t := 54) ?hr ?_; (case hd => rfl); (case hg => rfl); (case hr => first | (go_simp; done) | (go_simp; rfl)); intro gb552 hg w21 hbox hb; have n0_ := Aside0.mk (Kd.R_below (nr_ HO545.out) hb); have n1_ := Aside0.mk (Kd.R_below (nr_ HO551.out) hb); have n2_ := Aside0.mk (blk_below (g := gb539) (o := .cells #[.int .i64 a0_0, .int .i64 a0_1, .slice A0_2 l0_2.length c0_2] 49 (0, 0)) (nb_ BK539.out) hb); have n3_ := Aside0.mk (below_step (ne_ HB.out) hb); have n4_ := Aside0.mk (hbox); have n5_ := Aside0.mk ((by rw [hg]; exact (below_size (ne_ HB.out)) : w.heap.size ≤ gb552)); have n6_ := Aside0.mk ((by rw [hg]; exact (below_size (ne_ HB.out)) : w.heap.size ≤ gb552)); have n7_ := Aside0.mk ((by rw [hg]; exact Nat.ne_of_lt (blk_lt (g := gb539) (o := .cells #[.int .i64 a0_0, .int .i64 a0_1, .slice A0_2 l0_2.length c0_2] 49 (0, 0)) (nb_ BK539.out)) : gb539 ≠ gb552)); have n8_ := Aside0.mk ((by rw [hg]; exact Nat.ne_of_gt (blk_lt (g := gb539) (o := .cells #[.int .i64 a0_0, .int .i64 a0_1, .slice A0_2 l0_2.length c0_2] 49 (0, 0)) (nb_ BK539.out)) : gb552 ≠ gb539)); clear HO545; clear HO551; clear BK539; clear HB; have HO545 := n0_; have HO551 := n1_; have BK539 := n2_; have HB := n3_; have BK552 := n4_; have GW552 := n5_; have GE552 := n6_; have NB539_552 := n7_; have NB552_539 := n8_; clear n0_ n1_ n2_ n3_ n4_ n5_ n6_ n7_ n8_; clear hb hbox hg; have hnb22 := NB552_539.out; have hnc22 := NB539_552.out; have hcz23_0 : w21.cell? ⟨gb552, 0, none⟩ = some (.int .i64 0) := (bC8 BK552.out 0).trans rfl; have hcz23_1 : w21.cell? ⟨gb552, 1, none⟩ = some (.int .i64 0) := (bC8 BK552.out 1).trans rfl; have hcz23_2 : w21.cell? ⟨gb552, 2, none⟩ = some (.slice none 0 0) := (bC8 BK552.out 2).trans rfl; have hfz23_0 := blk_frozen BK552.out 0; have hfz23_1 := blk_frozen BK552.out 1; have hfz23_2 := blk_frozen BK552.out 2; obtain ⟨Ao24, co24, eo24⟩ := Kd.R_slice HO551.out; subst eo24) | ((with_reducible refine gate_callee (f := 40) rfl ?_); refine goesL_ (some 18) rfl rfl Try.func40 (by kernel_rfl) rfl #[.agg #[.int .i64 t547, .int .i64 t548, .slice Ao24 t549.length co24]] rfl na_ ?_; (with_reducible refine (impl_PlanOk.calls k t547 t548 _ _ t549 t553 _ ?side1 ?side2 A10.out).mono ?_); (case side1 => refine (Kd.R_reads' (e := 89) (base := w.heap.size) (ok := fun k_ => (True ∧ some k_ ≠ (.slice Ao17 t543.length co17 : Value).ownBlock)) (n := t549.length) (c := co24) ?_).2.2; exact (by (with_reducible repeat (first | apply Kd.R_alloc | apply Kd.R_drewN | apply Kd.R_drew)); exact (Kd.R_mono (Kd.R_far (p := ⟨gb552, 2, none⟩) (Kd.R_far (p := ⟨gb552, 1, none⟩) (Kd.R_far (p := ⟨gb552, 0, none⟩) (Kd.R_types HO551.out BK552.out (by decide)) (fun _ hk => hk.2) (.int .i64 t547)) (fun _ hk => hk.2) (.int .i64 t548)) (fun _ hk => hk.2) (.slice Ao24 t549.length co24)) (fun _ h_ => h_.1)))); (case side2 => exact (Kd.R_reads' HO551.out).2.1); rintro e w25 ⟨rfl, hb⟩; refine ⟨_, rfl, ?_⟩; have n0_ := Aside0.mk (Kd.R_below (by (with_reducible repeat (first | apply Kd.R_alloc | apply Kd.R_drewN | apply Kd.R_drew)); exact (Kd.R_mono (Kd.R_far (p := ⟨gb552, 2, none⟩) (Kd.R_far (p := ⟨gb552, 1, none⟩) (Kd.R_far (p := ⟨gb552, 0, none⟩) (Kd.R_types HO545.out BK552.out (by decide)) (fun _ hk => hk.2) (.int .i64 t547)) (fun _ hk => hk.2) (.int .i64 t548)) (fun _ hk => hk.2) (.slice Ao24 t549.length co24)) (fun _ h_ => h_.1))) hb); have n1_ := Aside0.mk (Kd.R_below (by (with_reducible repeat (first | apply Kd.R_alloc | apply Kd.R_drewN | apply Kd.R_drew)); exact (Kd.R_mono (Kd.R_far (p := ⟨gb552, 2, none⟩) (Kd.R_far (p := ⟨gb552, 1, none⟩) (Kd.R_far (p := ⟨gb552, 0, none⟩) (Kd.R_types HO551.out BK552.out (by decide)) (fun _ hk => hk.2) (.int .i64 t547)) (fun _ hk => hk.2) (.int .i64 t548)) (fun _ hk => hk.2) (.slice Ao24 t549.length co24)) (fun _ h_ => h_.1))) hb); have n2_ := Aside0.mk (blk_below (g := gb539) (o := .cells #[.int .i64 a0_0, .int .i64 a0_1, .slice A0_2 l0_2.length c0_2] 49 (0, 0)) (nbf_ BK539.out) hb); have n3_ := Aside0.mk (blk_below (g := gb552) (o := .cells #[.int .i64 t547, .int .i64 t548, .slice Ao24 t549.length co24] 54 (0, 0)) (by (with_reducible repeat (first | refine blk_drewN ?_ _ | refine blk_drew ?_ | refine blk_alloc ?_ _)); refine blk_put (cs := #[.int .i64 t547, .int .i64 t548, .slice none 0 0]) ?_ 2 _ rfl; (with_reducible repeat (first | refine blk_drewN ?_ _ | refine blk_drew ?_ | refine blk_alloc ?_ _)); refine blk_put (cs := #[.int .i64 t547, .int .i64 0, .slice none 0 0]) ?_ 1 _ rfl; (with_reducible repeat (first | refine blk_drewN ?_ _ | refine blk_drew ?_ | refine blk_alloc ?_ _)); refine blk_put (cs := #[.int .i64 0, .int .i64 0, .slice none 0 0]) ?_ 0 _ rfl; (with_reducible repeat (first | refine blk_drewN ?_ _ | refine blk_drew ?_ | refine blk_alloc ?_ _)); exact BK552.out) hb); have n4_ := Aside0.mk (below_step (ne_ HB.out) hb); clear HO545; clear HO551; clear BK539; clear BK552; clear HB; have HO545 := n0_; have HO551 := n1_; have BK539 := n2_; have BK552 := n3_; have HB := n4_; clear n0_ n1_ n2_ n3_ n4_; (try clear hb); (try clear hb2); (try clear hk); (try clear hi)))
    go_ret
    exact ⟨by first | rfl | (simp [errW_none, errW_some] <;> rfl) | (simp [*, errW_none, errW_some] <;> rfl), by repeat (first | (with_reducible first | exact HB.out | apply below_alloc | apply pw_below_drewN | apply below_drew1 | refine below_set ?_ GE539.out | refine below_set ?_ GE552.out) | exact HB.out)⟩
   ·rw [if_neg c11] at H
    have c11b0 : (t553 != t546) = false := by simpa using c11
    (try (have c11b1 : decide (t553 = t546) = true := by simpa using c11))
    (try (have c11b2 : (t553 == t546) = true := by simpa using c11))
    clear c11
    replace H := Option.bind_eq_some_iff.mp H
    obtain ⟨⟨t554, t555, t556⟩, A260, H⟩ := H
    replace H : ((laws_eqPlan.f k t547 t548 t549 t554 t555 t556).bind fun t559 => (if t559 = true then (some true) else (some false))) = some r := H
    have A26 := Aside0.mk A260
    clear A260
    replace H := Option.bind_eq_some_iff.mp H
    obtain ⟨t559, A270, H⟩ := H
    replace H : (if t559 = true then (some true) else (some false)) = some r := H
    have A27 := Aside0.mk A270
    clear A270
    by_cases c28 : t559 = true
    ·subst c28
     have H1 : (some true) = some r := by rw [if_pos rfl] at H; exact H
     clear H
     have H := H1
     clear H1
     obtain rfl := Option.some.inj H
     go_enter Try.func8, Try.ntmps8
     try go_wp2_with (first | ((with_reducible refine gate_dst (N := 1) rfl ?_); refine box_event ?hg (N := 1) ?hd (cs := #[.int .i64 a0_0, .int .i64 a0_1, .slice A0_2 l0_2.length c0_2]) (t := 49) ?hr ?_; (case hd => rfl); (case hg => rfl); (case hr => first | (go_simp; done) | (go_simp; rfl)); intro gb539 hg w29 hbox hb; have n0_ := Aside0.mk (below_step (ne_ HB.out) hb); have n1_ := Aside0.mk (hbox); have n2_ := Aside0.mk ((by rw [hg]; exact (below_size (ne_ HB.out)) : w.heap.size ≤ gb539)); have n3_ := Aside0.mk ((by rw [hg]; exact (below_size (ne_ HB.out)) : w.heap.size ≤ gb539)); clear HB; have HB := n0_; have BK539 := n1_; have GW539 := n2_; have GE539 := n3_; clear n0_ n1_ n2_ n3_; clear hb hbox hg; have hcz30_0 : w29.cell? ⟨gb539, 0, none⟩ = some (.int .i64 a0_0) := (bC8 BK539.out 0).trans rfl; have hcz30_1 : w29.cell? ⟨gb539, 1, none⟩ = some (.int .i64 a0_1) := (bC8 BK539.out 1).trans rfl; have hcz30_2 : w29.cell? ⟨gb539, 2, none⟩ = some (.slice A0_2 l0_2.length c0_2) := (bC8 BK539.out 2).trans rfl; have hfz30_0 := blk_frozen BK539.out 0; have hfz30_1 := blk_frozen BK539.out 1; have hfz30_2 := blk_frozen BK539.out 2) | ((with_reducible refine gate_callee (f := 37) rfl ?_); refine goesL_ (some 9) rfl rfl Try.func37 (by kernel_rfl) rfl #[.agg #[.int .i64 a0_0, .int .i64 a0_1, .slice A0_2 l0_2.length c0_2], .int .i64 1048576] rfl na_ ?_; (with_reducible refine (laws_szPlan.calls a0_0 a0_1 _ _ l0_2 1048576 t540 _ ?side1 ?side2 A2.out).mono ?_); (case side1 => exact nc_ (Kd.C_below HR0_2.out HB.out)); (case side2 => exact HC0_2.out); rintro e w31 ⟨rfl, hb⟩; refine ⟨_, rfl, ?_⟩; have n0_ := Aside0.mk (blk_below (g := gb539) (o := .cells #[.int .i64 a0_0, .int .i64 a0_1, .slice A0_2 l0_2.length c0_2] 49 (0, 0)) (nb_ BK539.out) hb); have n1_ := Aside0.mk (below_step (ne_ HB.out) hb); clear BK539; clear HB; have BK539 := n0_; have HB := n1_; clear n0_ n1_; (try clear hb); (try clear hb2); (try clear hk); (try clear hi); have hcz32_0 : w31.cell? ⟨gb539, 0, none⟩ = some (.int .i64 a0_0) := (bC8 BK539.out 0).trans rfl; have hcz32_1 : w31.cell? ⟨gb539, 1, none⟩ = some (.int .i64 a0_1) := (bC8 BK539.out 1).trans rfl; have hcz32_2 : w31.cell? ⟨gb539, 2, none⟩ = some (.slice A0_2 l0_2.length c0_2) := (bC8 BK539.out 2).trans rfl; have hfz32_0 := blk_frozen BK539.out 0; have hfz32_1 := blk_frozen BK539.out 1; have hfz32_2 := blk_frozen BK539.out 2) | ((with_reducible refine gate_callee (f := 39) rfl ?_); refine goesL_ (some 13) rfl rfl Try.func39 (by kernel_rfl) rfl #[.agg #[.int .i64 a0_0, .int .i64 a0_1, .slice A0_2 l0_2.length c0_2]] rfl na_ ?_; (with_reducible refine (laws_toPlan.calls k a0_0 a0_1 _ _ l0_2 t541 t542 t543 _ ?side1 ?side2 A7.out).mono ?_); (case side1 => exact nc_ (Kd.C_below HR0_2.out HB.out)); (case side2 => exact HC0_2.out); rintro e w33 ⟨v544, rfl, ho0, hb⟩; refine ⟨_, rfl, ?_⟩; have n0_ := Aside0.mk (Kd.R_lower ho0 (below_size (ne_ HB.out))); have n1_ := Aside0.mk (blk_below (g := gb539) (o := .cells #[.int .i64 a0_0, .int .i64 a0_1, .slice A0_2 l0_2.length c0_2] 49 (0, 0)) (nb_ BK539.out) hb); have n2_ := Aside0.mk (below_step (ne_ HB.out) hb); clear BK539; clear HB; have HO545 := n0_; have BK539 := n1_; have HB := n2_; clear n0_ n1_ n2_; (try clear hb); (try clear hb2); (try clear hk); (try clear hi); (try clear ho0); obtain ⟨Ao34, co34, eo34⟩ := Kd.R_slice HO545.out; subst eo34) | ((with_reducible refine gate_callee (f := 38) rfl ?_); refine goesL_ (some 14) rfl rfl Try.func38 (by kernel_rfl) rfl #[.agg #[.int .i64 t541, .int .i64 t542, .slice Ao34 t543.length co34]] rfl na_ ?_; (with_reducible refine (spec_PlanOk.calls k t541 t542 _ _ t543 t546 _ ?side1 ?side2 A8.out).mono ?_); (case side1 => exact nc_ (Kd.R_reads' HO545.out).2.2); (case side2 => exact (Kd.R_reads' HO545.out).2.1); rintro e w35 ⟨rfl, hb⟩; refine ⟨_, rfl, ?_⟩; have n0_ := Aside0.mk (Kd.R_below (nr_ HO545.out) hb); have n1_ := Aside0.mk (blk_below (g := gb539) (o := .cells #[.int .i64 a0_0, .int .i64 a0_1, .slice A0_2 l0_2.length c0_2] 49 (0, 0)) (nb_ BK539.out) hb); have n2_ := Aside0.mk (below_step (ne_ HB.out) hb); clear HO545; clear BK539; clear HB; have HO545 := n0_; have BK539 := n1_; have HB := n2_; clear n0_ n1_ n2_; (try clear hb); (try clear hb2); (try clear hk); (try clear hi); have hcz36_0 : w35.cell? ⟨gb539, 0, none⟩ = some (.int .i64 a0_0) := (bC8 BK539.out 0).trans rfl; have hcz36_1 : w35.cell? ⟨gb539, 1, none⟩ = some (.int .i64 a0_1) := (bC8 BK539.out 1).trans rfl; have hcz36_2 : w35.cell? ⟨gb539, 2, none⟩ = some (.slice A0_2 l0_2.length c0_2) := (bC8 BK539.out 2).trans rfl; have hfz36_0 := blk_frozen BK539.out 0; have hfz36_1 := blk_frozen BK539.out 1; have hfz36_2 := blk_frozen BK539.out 2) | ((with_reducible refine gate_callee (f := 39) rfl ?_); refine goesL_ (some 16) rfl rfl Try.func39 (by kernel_rfl) rfl #[.agg #[.int .i64 a0_0, .int .i64 a0_1, .slice A0_2 l0_2.length c0_2]] rfl na_ ?_; (with_reducible refine (laws_toPlan.calls k a0_0 a0_1 _ _ l0_2 t547 t548 t549 _ ?side1 ?side2 A9.out).mono ?_); (case side1 => exact nc_ (Kd.C_below HR0_2.out HB.out)); (case side2 => exact HC0_2.out); rintro e w37 ⟨v550, rfl, ho0, hb⟩; refine ⟨_, rfl, ?_⟩; have n0_ := Aside0.mk (Kd.R_elder' (nr_ HO545.out) (Kd.R_base ho0) hb); have n1_ := Aside0.mk (Kd.R_lower (Kd.R_new' ho0 (Kd.R_lt (nr_ HO545.out))) (below_size (ne_ HB.out))); have n2_ := Aside0.mk (blk_below (g := gb539) (o := .cells #[.int .i64 a0_0, .int .i64 a0_1, .slice A0_2 l0_2.length c0_2] 49 (0, 0)) (nb_ BK539.out) hb); have n3_ := Aside0.mk (below_step (ne_ HB.out) hb); clear HO545; clear BK539; clear HB; have HO545 := n0_; have HO551 := n1_; have BK539 := n2_; have HB := n3_; clear n0_ n1_ n2_ n3_; (try clear hb); (try clear hb2); (try clear hk); (try clear hi); (try clear ho0)) | ((with_reducible refine gate_dst (N := 5) rfl ?_); refine box_event ?hg (N := 5) ?hd (cs := #[.int .i64 0, .int .i64 0, .slice none 0 0]) (t := 54) ?hr ?_; (case hd => rfl); (case hg => rfl); (case hr => first | (go_simp; done) | (go_simp; rfl)); intro gb552 hg w38 hbox hb; have n0_ := Aside0.mk (Kd.R_below (nr_ HO545.out) hb); have n1_ := Aside0.mk (Kd.R_below (nr_ HO551.out) hb); have n2_ := Aside0.mk (blk_below (g := gb539) (o := .cells #[.int .i64 a0_0, .int .i64 a0_1, .slice A0_2 l0_2.length c0_2] 49 (0, 0)) (nb_ BK539.out) hb); have n3_ := Aside0.mk (below_step (ne_ HB.out) hb); have n4_ := Aside0.mk (hbox); have n5_ := Aside0.mk ((by rw [hg]; exact (below_size (ne_ HB.out)) : w.heap.size ≤ gb552)); have n6_ := Aside0.mk ((by rw [hg]; exact (below_size (ne_ HB.out)) : w.heap.size ≤ gb552)); have n7_ := Aside0.mk ((by rw [hg]; exact Nat.ne_of_lt (blk_lt (g := gb539) (o := .cells #[.int .i64 a0_0, .int .i64 a0_1, .slice A0_2 l0_2.length c0_2] 49 (0, 0)) (nb_ BK539.out)) : gb539 ≠ gb552)); have n8_ := Aside0.mk ((by rw [hg]; exact Nat.ne_of_gt (blk_lt (g := gb539) (o := .cells #[.int .i64 a0_0, .int .i64 a0_1, .slice A0_2 l0_2.length c0_2] 49 (0, 0)) (nb_ BK539.out)) : gb552 ≠ gb539)); clear HO545; clear HO551; clear BK539; clear HB; have HO545 := n0_; have HO551 := n1_; have BK539 := n2_; have HB := n3_; have BK552 := n4_; have GW552 := n5_; have GE552 := n6_; have NB539_552 := n7_; have NB552_539 := n8_; clear n0_ n1_ n2_ n3_ n4_ n5_ n6_ n7_ n8_; clear hb hbox hg; have hnb39 := NB552_539.out; have hnc39 := NB539_552.out; have hcz40_0 : w38.cell? ⟨gb552, 0, none⟩ = some (.int .i64 0) := (bC8 BK552.out 0).trans rfl; have hcz40_1 : w38.cell? ⟨gb552, 1, none⟩ = some (.int .i64 0) := (bC8 BK552.out 1).trans rfl; have hcz40_2 : w38.cell? ⟨gb552, 2, none⟩ = some (.slice none 0 0) := (bC8 BK552.out 2).trans rfl; have hfz40_0 := blk_frozen BK552.out 0; have hfz40_1 := blk_frozen BK552.out 1; have hfz40_2 := blk_frozen BK552.out 2; obtain ⟨Ao41, co41, eo41⟩ := Kd.R_slice HO551.out; subst eo41) | ((with_reducible refine gate_callee (f := 40) rfl ?_); refine goesL_ (some 18) rfl rfl Try.func40 (by kernel_rfl) rfl #[.agg #[.int .i64 t547, .int .i64 t548, .slice Ao41 t549.length co41]] rfl na_ ?_; (with_reducible refine (impl_PlanOk.calls k t547 t548 _ _ t549 t553 _ ?side1 ?side2 A10.out).mono ?_); (case side1 => refine (Kd.R_reads' (e := 89) (base := w.heap.size) (ok := fun k_ => (True ∧ some k_ ≠ (.slice Ao34 t543.length co34 : Value).ownBlock)) (n := t549.length) (c := co41) ?_).2.2; exact (by (with_reducible repeat (first | apply Kd.R_alloc | apply Kd.R_drewN | apply Kd.R_drew)); exact (Kd.R_mono (Kd.R_far (p := ⟨gb552, 2, none⟩) (Kd.R_far (p := ⟨gb552, 1, none⟩) (Kd.R_far (p := ⟨gb552, 0, none⟩) (Kd.R_types HO551.out BK552.out (by decide)) (fun _ hk => hk.2) (.int .i64 t547)) (fun _ hk => hk.2) (.int .i64 t548)) (fun _ hk => hk.2) (.slice Ao41 t549.length co41)) (fun _ h_ => h_.1)))); (case side2 => exact (Kd.R_reads' HO551.out).2.1); rintro e w42 ⟨rfl, hb⟩; refine ⟨_, rfl, ?_⟩; have n0_ := Aside0.mk (Kd.R_below (by (with_reducible repeat (first | apply Kd.R_alloc | apply Kd.R_drewN | apply Kd.R_drew)); exact (Kd.R_mono (Kd.R_far (p := ⟨gb552, 2, none⟩) (Kd.R_far (p := ⟨gb552, 1, none⟩) (Kd.R_far (p := ⟨gb552, 0, none⟩) (Kd.R_types HO545.out BK552.out (by decide)) (fun _ hk => hk.2) (.int .i64 t547)) (fun _ hk => hk.2) (.int .i64 t548)) (fun _ hk => hk.2) (.slice Ao41 t549.length co41)) (fun _ h_ => h_.1))) hb); have n1_ := Aside0.mk (Kd.R_below (by (with_reducible repeat (first | apply Kd.R_alloc | apply Kd.R_drewN | apply Kd.R_drew)); exact (Kd.R_mono (Kd.R_far (p := ⟨gb552, 2, none⟩) (Kd.R_far (p := ⟨gb552, 1, none⟩) (Kd.R_far (p := ⟨gb552, 0, none⟩) (Kd.R_types HO551.out BK552.out (by decide)) (fun _ hk => hk.2) (.int .i64 t547)) (fun _ hk => hk.2) (.int .i64 t548)) (fun _ hk => hk.2) (.slice Ao41 t549.length co41)) (fun _ h_ => h_.1))) hb); have n2_ := Aside0.mk (blk_below (g := gb539) (o := .cells #[.int .i64 a0_0, .int .i64 a0_1, .slice A0_2 l0_2.length c0_2] 49 (0, 0)) (nbf_ BK539.out) hb); have n3_ := Aside0.mk (blk_below (g := gb552) (o := .cells #[.int .i64 t547, .int .i64 t548, .slice Ao41 t549.length co41] 54 (0, 0)) (by (with_reducible repeat (first | refine blk_drewN ?_ _ | refine blk_drew ?_ | refine blk_alloc ?_ _)); refine blk_put (cs := #[.int .i64 t547, .int .i64 t548, .slice none 0 0]) ?_ 2 _ rfl; (with_reducible repeat (first | refine blk_drewN ?_ _ | refine blk_drew ?_ | refine blk_alloc ?_ _)); refine blk_put (cs := #[.int .i64 t547, .int .i64 0, .slice none 0 0]) ?_ 1 _ rfl; (with_reducible repeat (first | refine blk_drewN ?_ _ | refine blk_drew ?_ | refine blk_alloc ?_ _)); refine blk_put (cs := #[.int .i64 0, .int .i64 0, .slice none 0 0]) ?_ 0 _ rfl; (with_reducible repeat (first | refine blk_drewN ?_ _ | refine blk_drew ?_ | refine blk_alloc ?_ _)); exact BK552.out) hb); have n4_ := Aside0.mk (below_step (ne_ HB.out) hb); clear HO545; clear HO551; clear BK539; clear BK552; clear HB; have HO545 := n0_; have HO551 := n1_; have BK539 := n2_; have BK552 := n3_; have HB := n4_; clear n0_ n1_ n2_ n3_ n4_; (try clear hb); (try clear hb2); (try clear hk); (try clear hi)))
     have n0_ := Aside0.mk (Kd.R_drew HO545.out)
     have n1_ := Aside0.mk (Kd.R_drew HO551.out)
     have n2_ := Aside0.mk (blk_drew BK539.out)
     have n3_ := Aside0.mk (blk_drew BK552.out)
     have n4_ := Aside0.mk (below_drew1 HB.out)
     clear HO545
     clear HO551
     clear BK539
     clear BK552
     clear HB
     have HO545 := n0_
     have HO551 := n1_
     have BK539 := n2_
     have BK552 := n3_
     have HB := n4_
     clear n0_ n1_ n2_ n3_ n4_
     refine start_ (n := 5) (S := fun w' => w'.cell? ⟨gb552, 0, none⟩ = some (.int .i64 t547) ∧ w'.cell? ⟨gb552, 1, none⟩ = some (.int .i64 t548) ∧ w'.cell? ⟨gb552, 2, none⟩ = some (.slice Ao41 t549.length co41) ∧ w'.cell? ⟨gb539, 0, none⟩ = some (.int .i64 a0_0) ∧ w'.cell? ⟨gb539, 1, none⟩ = some (.int .i64 a0_1) ∧ w'.cell? ⟨gb539, 2, none⟩ = some (.slice A0_2 l0_2.length c0_2)) (ds := []) #[false, false, false, false, false] (by kernel_rfl) rfl rfl ⟨(bC8 BK552.out 0).trans rfl, (bC8 BK552.out 1).trans rfl, (bC8 BK552.out 2).trans rfl, (bC8 BK539.out 0).trans rfl, (bC8 BK539.out 1).trans rfl, (bC8 BK539.out 2).trans rfl⟩ (fun hHeld => ?_)
     generalize w42.drew = w43 at HO545 HO551 BK539 BK552 HB hHeld ⊢
     refine take_ (i := 0) (N := some 22) (v := ?_) (a' := ?_) #[true, false, false, false, false] rfl rfl (by kernel_rfl) (fun _ _ _ h => h) (Or.inl ⟨by rfl, ?_⟩) hHeld ?_ ?_
     rotate_left
     ·rintro w' ⟨s0, s1, s2, s3, s4, s5⟩
      go_simp
      with_reducible rfl
     rotate_left
     ·simp only [Act.put, List.setIfInBounds_toArray, List.set_cons_zero, List.set_cons_succ, i64_w, i32_w]
      rfl
     refine take_ (i := 1) (N := some 23) (v := ?_) (a' := ?_) #[true, true, false, false, false] rfl rfl (by kernel_rfl) (fun _ _ _ h => h) (Or.inl ⟨by rfl, ?_⟩) hHeld ?_ ?_
     rotate_left
     ·rintro w' ⟨s0, s1, s2, s3, s4, s5⟩
      go_simp
      with_reducible rfl
     rotate_left
     ·simp only [Act.put, List.setIfInBounds_toArray, List.set_cons_zero, List.set_cons_succ, i64_w, i32_w]
      rfl
     refine one_ (i := 2) (N := some 24) #[true, true, true, false, false] rfl rfl (by kernel_rfl) (by decide) (fun K hK => ?_)
     refine goes_ Try.func39 (by kernel_rfl) rfl #[.agg #[.int .i64 a0_0, .int .i64 a0_1, .slice A0_2 l0_2.length c0_2]] (by rfl) rfl rfl na_ ?_
     with_reducible refine (laws_toPlan.calls k a0_0 a0_1 _ _ l0_2 t554 t555 t556 _ ?side1 ?side2 A26.out).mono ?_
     (case side1 => exact nc_ (Kd.C_below HR0_2.out HB.out))
     (case side2 => exact HC0_2.out)
     rintro e w44 ⟨v557, rfl, ho0, hb⟩
     refine ⟨_, rfl, ?_⟩
     have n0_ := Aside0.mk (Kd.R_elder' (nr_ HO545.out) (Kd.R_base ho0) hb)
     have n1_ := Aside0.mk (Kd.R_elder' (nr_ HO551.out) (Kd.R_base ho0) hb)
     have n2_ := Aside0.mk (Kd.R_lower (Kd.R_new' (Kd.R_new' ho0 (Kd.R_lt (nr_ HO545.out))) (Kd.R_lt (nr_ HO551.out))) (below_size (ne_ HB.out)))
     have n3_ := Aside0.mk (blk_below (g := gb539) (o := .cells #[.int .i64 a0_0, .int .i64 a0_1, .slice A0_2 l0_2.length c0_2] 49 (0, 0)) (nb_ BK539.out) hb)
     have n4_ := Aside0.mk (blk_below (g := gb552) (o := .cells #[.int .i64 t547, .int .i64 t548, .slice Ao41 t549.length co41] 54 (0, 0)) (nb_ BK552.out) hb)
     have n5_ := Aside0.mk (below_step (ne_ HB.out) hb)
     clear HO545
     clear HO551
     clear BK539
     clear BK552
     clear HB
     have HO545 := n0_
     have HO551 := n1_
     have HO558 := n2_
     have BK539 := n3_
     have BK552 := n4_
     have HB := n5_
     clear n0_ n1_ n2_ n3_ n4_ n5_
     (try clear hb)
     (try clear hb2)
     (try clear hk)
     (try clear hi)
     (try clear ho0)
     obtain ⟨Ao45, co45, eo45⟩ := Kd.R_slice HO558.out
     (first | subst eo45 | (injection eo45 with f1_ f2_ f3_; have f4_ := f1_.symm; have f5_ := f3_.symm; clear f1_ f2_ f3_; subst f4_; subst f5_))
     refine hK.out _ _ ⟨(bC8 BK552.out 0).trans rfl, (bC8 BK552.out 1).trans rfl, (bC8 BK552.out 2).trans rfl, (bC8 BK539.out 0).trans rfl, (bC8 BK539.out 1).trans rfl, (bC8 BK539.out 2).trans rfl⟩ (fun hHeld => ?_)
     clear hK K
     refine norm_ (a' := ?_) ?_ ?_
     rotate_left
     ·show Act.put _ (some 24) _ = _
      simp only [Act.put, List.setIfInBounds_toArray, List.set_cons_zero, List.set_cons_succ, i64_w, i32_w]
      rfl
     refine one_ (i := 3) (N := some 25) #[true, true, true, true, false] rfl rfl (by kernel_rfl) (by decide) (fun K hK => ?_)
     refine goes_ Try.func41 (by kernel_rfl) rfl #[.agg #[.int .i64 t547, .int .i64 t548, .slice Ao41 t549.length co41], .agg #[.int .i64 t554, .int .i64 t555, .slice Ao45 t556.length co45]] (by rfl) rfl rfl na_ ?_
     with_reducible refine (laws_eqPlan.calls k t547 t548 _ _ t549 t554 t555 _ _ t556 true _ ?side1 ?side2 ?side3 ?side4 A27.out).mono ?_
     (case side1 => exact nc_ (Kd.R_reads' HO551.out).2.2)
     (case side2 => exact (Kd.R_reads' HO551.out).2.1)
     (case side3 => exact nc_ (Kd.R_reads' HO558.out).2.2)
     (case side4 => exact (Kd.R_reads' HO558.out).2.1)
     rintro e w46 ⟨rfl, hb⟩
     refine ⟨_, rfl, ?_⟩
     have n0_ := Aside0.mk (Kd.R_below (nr_ HO545.out) hb)
     have n1_ := Aside0.mk (Kd.R_below (nr_ HO551.out) hb)
     have n2_ := Aside0.mk (Kd.R_below (nr_ HO558.out) hb)
     have n3_ := Aside0.mk (blk_below (g := gb539) (o := .cells #[.int .i64 a0_0, .int .i64 a0_1, .slice A0_2 l0_2.length c0_2] 49 (0, 0)) (nb_ BK539.out) hb)
     have n4_ := Aside0.mk (blk_below (g := gb552) (o := .cells #[.int .i64 t547, .int .i64 t548, .slice Ao41 t549.length co41] 54 (0, 0)) (nb_ BK552.out) hb)
     have n5_ := Aside0.mk (below_step (ne_ HB.out) hb)
     clear HO545
     clear HO551
     clear HO558
     clear BK539
     clear BK552
     clear HB
     have HO545 := n0_
     have HO551 := n1_
     have HO558 := n2_
     have BK539 := n3_
     have BK552 := n4_
     have HB := n5_
     clear n0_ n1_ n2_ n3_ n4_ n5_
     (try clear hb)
     (try clear hb2)
     (try clear hk)
     (try clear hi)
     refine hK.out _ _ ⟨(bC8 BK552.out 0).trans rfl, (bC8 BK552.out 1).trans rfl, (bC8 BK552.out 2).trans rfl, (bC8 BK539.out 0).trans rfl, (bC8 BK539.out 1).trans rfl, (bC8 BK539.out 2).trans rfl⟩ (fun hHeld => ?_)
     clear hK K
     refine norm_ (a' := ?_) ?_ ?_
     rotate_left
     ·show Act.put _ (some 25) _ = _
      simp only [Act.put, List.setIfInBounds_toArray, List.set_cons_zero, List.set_cons_succ, i64_w, i32_w]
      rfl
     refine pure_ (i := 4) (N := some 26) (v := ?_) (a' := ?_) #[true, true, true, true, true] rfl rfl (by kernel_rfl) (fun _ _ _ h => h) (Or.inl ⟨by rfl, ?_⟩) ?_ ?_
     rotate_left
     ·intro w'
      go_simp
      with_reducible rfl
     rotate_left
     ·simp only [Act.put, List.setIfInBounds_toArray, List.set_cons_zero, List.set_cons_succ, i64_w, i32_w]
      rfl
     refine done_ (by kernel_rfl) ?_
     try go_wp2
     go_ret
     exact ⟨by first | rfl | (simp [errW_none, errW_some] <;> rfl) | (simp [*, errW_none, errW_some] <;> rfl), by repeat (first | (with_reducible first | exact HB.out | apply below_alloc | apply pw_below_drewN | apply below_drew1 | refine below_set ?_ GE539.out | refine below_set ?_ GE552.out) | exact HB.out)⟩
    ·replace c28 := Bool.eq_false_iff.mpr c28
     subst c28
     have H1 : (some false) = some r := by rw [if_neg (show ¬ (false = true) by decide)] at H; exact H
     clear H
     have H := H1
     clear H1
     obtain rfl := Option.some.inj H
     go_enter Try.func8, Try.ntmps8
     try go_wp2_with (first | ((with_reducible refine gate_dst (N := 1) rfl ?_); refine box_event ?hg (N := 1) ?hd (cs := #[.int .i64 a0_0, .int .i64 a0_1, .slice A0_2 l0_2.length c0_2]) (t := 49) ?hr ?_; (case hd => rfl); (case hg => rfl); (case hr => first | (go_simp; done) | (go_simp; rfl)); intro gb539 hg w47 hbox hb; have n0_ := Aside0.mk (below_step (ne_ HB.out) hb); have n1_ := Aside0.mk (hbox); have n2_ := Aside0.mk ((by rw [hg]; exact (below_size (ne_ HB.out)) : w.heap.size ≤ gb539)); have n3_ := Aside0.mk ((by rw [hg]; exact (below_size (ne_ HB.out)) : w.heap.size ≤ gb539)); clear HB; have HB := n0_; have BK539 := n1_; have GW539 := n2_; have GE539 := n3_; clear n0_ n1_ n2_ n3_; clear hb hbox hg; have hcz48_0 : w47.cell? ⟨gb539, 0, none⟩ = some (.int .i64 a0_0) := (bC8 BK539.out 0).trans rfl; have hcz48_1 : w47.cell? ⟨gb539, 1, none⟩ = some (.int .i64 a0_1) := (bC8 BK539.out 1).trans rfl; have hcz48_2 : w47.cell? ⟨gb539, 2, none⟩ = some (.slice A0_2 l0_2.length c0_2) := (bC8 BK539.out 2).trans rfl; have hfz48_0 := blk_frozen BK539.out 0; have hfz48_1 := blk_frozen BK539.out 1; have hfz48_2 := blk_frozen BK539.out 2) | ((with_reducible refine gate_callee (f := 37) rfl ?_); refine goesL_ (some 9) rfl rfl Try.func37 (by kernel_rfl) rfl #[.agg #[.int .i64 a0_0, .int .i64 a0_1, .slice A0_2 l0_2.length c0_2], .int .i64 1048576] rfl na_ ?_; (with_reducible refine (laws_szPlan.calls a0_0 a0_1 _ _ l0_2 1048576 t540 _ ?side1 ?side2 A2.out).mono ?_); (case side1 => exact nc_ (Kd.C_below HR0_2.out HB.out)); (case side2 => exact HC0_2.out); rintro e w49 ⟨rfl, hb⟩; refine ⟨_, rfl, ?_⟩; have n0_ := Aside0.mk (blk_below (g := gb539) (o := .cells #[.int .i64 a0_0, .int .i64 a0_1, .slice A0_2 l0_2.length c0_2] 49 (0, 0)) (nb_ BK539.out) hb); have n1_ := Aside0.mk (below_step (ne_ HB.out) hb); clear BK539; clear HB; have BK539 := n0_; have HB := n1_; clear n0_ n1_; (try clear hb); (try clear hb2); (try clear hk); (try clear hi); have hcz50_0 : w49.cell? ⟨gb539, 0, none⟩ = some (.int .i64 a0_0) := (bC8 BK539.out 0).trans rfl; have hcz50_1 : w49.cell? ⟨gb539, 1, none⟩ = some (.int .i64 a0_1) := (bC8 BK539.out 1).trans rfl; have hcz50_2 : w49.cell? ⟨gb539, 2, none⟩ = some (.slice A0_2 l0_2.length c0_2) := (bC8 BK539.out 2).trans rfl; have hfz50_0 := blk_frozen BK539.out 0; have hfz50_1 := blk_frozen BK539.out 1; have hfz50_2 := blk_frozen BK539.out 2) | ((with_reducible refine gate_callee (f := 39) rfl ?_); refine goesL_ (some 13) rfl rfl Try.func39 (by kernel_rfl) rfl #[.agg #[.int .i64 a0_0, .int .i64 a0_1, .slice A0_2 l0_2.length c0_2]] rfl na_ ?_; (with_reducible refine (laws_toPlan.calls k a0_0 a0_1 _ _ l0_2 t541 t542 t543 _ ?side1 ?side2 A7.out).mono ?_); (case side1 => exact nc_ (Kd.C_below HR0_2.out HB.out)); (case side2 => exact HC0_2.out); rintro e w51 ⟨v544, rfl, ho0, hb⟩; refine ⟨_, rfl, ?_⟩; have n0_ := Aside0.mk (Kd.R_lower ho0 (below_size (ne_ HB.out))); have n1_ := Aside0.mk (blk_below (g := gb539) (o := .cells #[.int .i64 a0_0, .int .i64 a0_1, .slice A0_2 l0_2.length c0_2] 49 (0, 0)) (nb_ BK539.out) hb); have n2_ := Aside0.mk (below_step (ne_ HB.out) hb); clear BK539; clear HB; have HO545 := n0_; have BK539 := n1_; have HB := n2_; clear n0_ n1_ n2_; (try clear hb); (try clear hb2); (try clear hk); (try clear hi); (try clear ho0); obtain ⟨Ao52, co52, eo52⟩ := Kd.R_slice HO545.out; subst eo52) | ((with_reducible refine gate_callee (f := 38) rfl ?_); refine goesL_ (some 14) rfl rfl Try.func38 (by kernel_rfl) rfl #[.agg #[.int .i64 t541, .int .i64 t542, .slice Ao52 t543.length co52]] rfl na_ ?_; (with_reducible refine (spec_PlanOk.calls k t541 t542 _ _ t543 t546 _ ?side1 ?side2 A8.out).mono ?_); (case side1 => exact nc_ (Kd.R_reads' HO545.out).2.2); (case side2 => exact (Kd.R_reads' HO545.out).2.1); rintro e w53 ⟨rfl, hb⟩; refine ⟨_, rfl, ?_⟩; have n0_ := Aside0.mk (Kd.R_below (nr_ HO545.out) hb); have n1_ := Aside0.mk (blk_below (g := gb539) (o := .cells #[.int .i64 a0_0, .int .i64 a0_1, .slice A0_2 l0_2.length c0_2] 49 (0, 0)) (nb_ BK539.out) hb); have n2_ := Aside0.mk (below_step (ne_ HB.out) hb); clear HO545; clear BK539; clear HB; have HO545 := n0_; have BK539 := n1_; have HB := n2_; clear n0_ n1_ n2_; (try clear hb); (try clear hb2); (try clear hk); (try clear hi); have hcz54_0 : w53.cell? ⟨gb539, 0, none⟩ = some (.int .i64 a0_0) := (bC8 BK539.out 0).trans rfl; have hcz54_1 : w53.cell? ⟨gb539, 1, none⟩ = some (.int .i64 a0_1) := (bC8 BK539.out 1).trans rfl; have hcz54_2 : w53.cell? ⟨gb539, 2, none⟩ = some (.slice A0_2 l0_2.length c0_2) := (bC8 BK539.out 2).trans rfl; have hfz54_0 := blk_frozen BK539.out 0; have hfz54_1 := blk_frozen BK539.out 1; have hfz54_2 := blk_frozen BK539.out 2) | ((with_reducible refine gate_callee (f := 39) rfl ?_); refine goesL_ (some 16) rfl rfl Try.func39 (by kernel_rfl) rfl #[.agg #[.int .i64 a0_0, .int .i64 a0_1, .slice A0_2 l0_2.length c0_2]] rfl na_ ?_; (with_reducible refine (laws_toPlan.calls k a0_0 a0_1 _ _ l0_2 t547 t548 t549 _ ?side1 ?side2 A9.out).mono ?_); (case side1 => exact nc_ (Kd.C_below HR0_2.out HB.out)); (case side2 => exact HC0_2.out); rintro e w55 ⟨v550, rfl, ho0, hb⟩; refine ⟨_, rfl, ?_⟩; have n0_ := Aside0.mk (Kd.R_elder' (nr_ HO545.out) (Kd.R_base ho0) hb); have n1_ := Aside0.mk (Kd.R_lower (Kd.R_new' ho0 (Kd.R_lt (nr_ HO545.out))) (below_size (ne_ HB.out))); have n2_ := Aside0.mk (blk_below (g := gb539) (o := .cells #[.int .i64 a0_0, .int .i64 a0_1, .slice A0_2 l0_2.length c0_2] 49 (0, 0)) (nb_ BK539.out) hb); have n3_ := Aside0.mk (below_step (ne_ HB.out) hb); clear HO545; clear BK539; clear HB; have HO545 := n0_; have HO551 := n1_; have BK539 := n2_; have HB := n3_; clear n0_ n1_ n2_ n3_; (try clear hb); (try clear hb2); (try clear hk); (try clear hi); (try clear ho0)) | ((with_reducible refine gate_dst (N := 5) rfl ?_); refine box_event ?hg (N := 5) ?hd (cs := #[.int .i64 0, .int .i64 0, .slice none 0 0]) (t := 54) ?hr ?_; (case hd => rfl); (case hg => rfl); (case hr => first | (go_simp; done) | (go_simp; rfl)); intro gb552 hg w56 hbox hb; have n0_ := Aside0.mk (Kd.R_below (nr_ HO545.out) hb); have n1_ := Aside0.mk (Kd.R_below (nr_ HO551.out) hb); have n2_ := Aside0.mk (blk_below (g := gb539) (o := .cells #[.int .i64 a0_0, .int .i64 a0_1, .slice A0_2 l0_2.length c0_2] 49 (0, 0)) (nb_ BK539.out) hb); have n3_ := Aside0.mk (below_step (ne_ HB.out) hb); have n4_ := Aside0.mk (hbox); have n5_ := Aside0.mk ((by rw [hg]; exact (below_size (ne_ HB.out)) : w.heap.size ≤ gb552)); have n6_ := Aside0.mk ((by rw [hg]; exact (below_size (ne_ HB.out)) : w.heap.size ≤ gb552)); have n7_ := Aside0.mk ((by rw [hg]; exact Nat.ne_of_lt (blk_lt (g := gb539) (o := .cells #[.int .i64 a0_0, .int .i64 a0_1, .slice A0_2 l0_2.length c0_2] 49 (0, 0)) (nb_ BK539.out)) : gb539 ≠ gb552)); have n8_ := Aside0.mk ((by rw [hg]; exact Nat.ne_of_gt (blk_lt (g := gb539) (o := .cells #[.int .i64 a0_0, .int .i64 a0_1, .slice A0_2 l0_2.length c0_2] 49 (0, 0)) (nb_ BK539.out)) : gb552 ≠ gb539)); clear HO545; clear HO551; clear BK539; clear HB; have HO545 := n0_; have HO551 := n1_; have BK539 := n2_; have HB := n3_; have BK552 := n4_; have GW552 := n5_; have GE552 := n6_; have NB539_552 := n7_; have NB552_539 := n8_; clear n0_ n1_ n2_ n3_ n4_ n5_ n6_ n7_ n8_; clear hb hbox hg; have hnb57 := NB552_539.out; have hnc57 := NB539_552.out; have hcz58_0 : w56.cell? ⟨gb552, 0, none⟩ = some (.int .i64 0) := (bC8 BK552.out 0).trans rfl; have hcz58_1 : w56.cell? ⟨gb552, 1, none⟩ = some (.int .i64 0) := (bC8 BK552.out 1).trans rfl; have hcz58_2 : w56.cell? ⟨gb552, 2, none⟩ = some (.slice none 0 0) := (bC8 BK552.out 2).trans rfl; have hfz58_0 := blk_frozen BK552.out 0; have hfz58_1 := blk_frozen BK552.out 1; have hfz58_2 := blk_frozen BK552.out 2; obtain ⟨Ao59, co59, eo59⟩ := Kd.R_slice HO551.out; subst eo59) | ((with_reducible refine gate_callee (f := 40) rfl ?_); refine goesL_ (some 18) rfl rfl Try.func40 (by kernel_rfl) rfl #[.agg #[.int .i64 t547, .int .i64 t548, .slice Ao59 t549.length co59]] rfl na_ ?_; (with_reducible refine (impl_PlanOk.calls k t547 t548 _ _ t549 t553 _ ?side1 ?side2 A10.out).mono ?_); (case side1 => refine (Kd.R_reads' (e := 89) (base := w.heap.size) (ok := fun k_ => (True ∧ some k_ ≠ (.slice Ao52 t543.length co52 : Value).ownBlock)) (n := t549.length) (c := co59) ?_).2.2; exact (by (with_reducible repeat (first | apply Kd.R_alloc | apply Kd.R_drewN | apply Kd.R_drew)); exact (Kd.R_mono (Kd.R_far (p := ⟨gb552, 2, none⟩) (Kd.R_far (p := ⟨gb552, 1, none⟩) (Kd.R_far (p := ⟨gb552, 0, none⟩) (Kd.R_types HO551.out BK552.out (by decide)) (fun _ hk => hk.2) (.int .i64 t547)) (fun _ hk => hk.2) (.int .i64 t548)) (fun _ hk => hk.2) (.slice Ao59 t549.length co59)) (fun _ h_ => h_.1)))); (case side2 => exact (Kd.R_reads' HO551.out).2.1); rintro e w60 ⟨rfl, hb⟩; refine ⟨_, rfl, ?_⟩; have n0_ := Aside0.mk (Kd.R_below (by (with_reducible repeat (first | apply Kd.R_alloc | apply Kd.R_drewN | apply Kd.R_drew)); exact (Kd.R_mono (Kd.R_far (p := ⟨gb552, 2, none⟩) (Kd.R_far (p := ⟨gb552, 1, none⟩) (Kd.R_far (p := ⟨gb552, 0, none⟩) (Kd.R_types HO545.out BK552.out (by decide)) (fun _ hk => hk.2) (.int .i64 t547)) (fun _ hk => hk.2) (.int .i64 t548)) (fun _ hk => hk.2) (.slice Ao59 t549.length co59)) (fun _ h_ => h_.1))) hb); have n1_ := Aside0.mk (Kd.R_below (by (with_reducible repeat (first | apply Kd.R_alloc | apply Kd.R_drewN | apply Kd.R_drew)); exact (Kd.R_mono (Kd.R_far (p := ⟨gb552, 2, none⟩) (Kd.R_far (p := ⟨gb552, 1, none⟩) (Kd.R_far (p := ⟨gb552, 0, none⟩) (Kd.R_types HO551.out BK552.out (by decide)) (fun _ hk => hk.2) (.int .i64 t547)) (fun _ hk => hk.2) (.int .i64 t548)) (fun _ hk => hk.2) (.slice Ao59 t549.length co59)) (fun _ h_ => h_.1))) hb); have n2_ := Aside0.mk (blk_below (g := gb539) (o := .cells #[.int .i64 a0_0, .int .i64 a0_1, .slice A0_2 l0_2.length c0_2] 49 (0, 0)) (nbf_ BK539.out) hb); have n3_ := Aside0.mk (blk_below (g := gb552) (o := .cells #[.int .i64 t547, .int .i64 t548, .slice Ao59 t549.length co59] 54 (0, 0)) (by (with_reducible repeat (first | refine blk_drewN ?_ _ | refine blk_drew ?_ | refine blk_alloc ?_ _)); refine blk_put (cs := #[.int .i64 t547, .int .i64 t548, .slice none 0 0]) ?_ 2 _ rfl; (with_reducible repeat (first | refine blk_drewN ?_ _ | refine blk_drew ?_ | refine blk_alloc ?_ _)); refine blk_put (cs := #[.int .i64 t547, .int .i64 0, .slice none 0 0]) ?_ 1 _ rfl; (with_reducible repeat (first | refine blk_drewN ?_ _ | refine blk_drew ?_ | refine blk_alloc ?_ _)); refine blk_put (cs := #[.int .i64 0, .int .i64 0, .slice none 0 0]) ?_ 0 _ rfl; (with_reducible repeat (first | refine blk_drewN ?_ _ | refine blk_drew ?_ | refine blk_alloc ?_ _)); exact BK552.out) hb); have n4_ := Aside0.mk (below_step (ne_ HB.out) hb); clear HO545; clear HO551; clear BK539; clear BK552; clear HB; have HO545 := n0_; have HO551 := n1_; have BK539 := n2_; have BK552 := n3_; have HB := n4_; clear n0_ n1_ n2_ n3_ n4_; (try clear hb); (try clear hb2); (try clear hk); (try clear hi)))
     have n0_ := Aside0.mk (Kd.R_drew HO545.out)
     have n1_ := Aside0.mk (Kd.R_drew HO551.out)
     have n2_ := Aside0.mk (blk_drew BK539.out)
     have n3_ := Aside0.mk (blk_drew BK552.out)
     have n4_ := Aside0.mk (below_drew1 HB.out)
     clear HO545
     clear HO551
     clear BK539
     clear BK552
     clear HB
     have HO545 := n0_
     have HO551 := n1_
     have BK539 := n2_
     have BK552 := n3_
     have HB := n4_
     clear n0_ n1_ n2_ n3_ n4_
     refine start_ (n := 5) (S := fun w' => w'.cell? ⟨gb552, 0, none⟩ = some (.int .i64 t547) ∧ w'.cell? ⟨gb552, 1, none⟩ = some (.int .i64 t548) ∧ w'.cell? ⟨gb552, 2, none⟩ = some (.slice Ao59 t549.length co59) ∧ w'.cell? ⟨gb539, 0, none⟩ = some (.int .i64 a0_0) ∧ w'.cell? ⟨gb539, 1, none⟩ = some (.int .i64 a0_1) ∧ w'.cell? ⟨gb539, 2, none⟩ = some (.slice A0_2 l0_2.length c0_2)) (ds := []) #[false, false, false, false, false] (by kernel_rfl) rfl rfl ⟨(bC8 BK552.out 0).trans rfl, (bC8 BK552.out 1).trans rfl, (bC8 BK552.out 2).trans rfl, (bC8 BK539.out 0).trans rfl, (bC8 BK539.out 1).trans rfl, (bC8 BK539.out 2).trans rfl⟩ (fun hHeld => ?_)
     generalize w60.drew = w61 at HO545 HO551 BK539 BK552 HB hHeld ⊢
     refine take_ (i := 0) (N := some 22) (v := ?_) (a' := ?_) #[true, false, false, false, false] rfl rfl (by kernel_rfl) (fun _ _ _ h => h) (Or.inl ⟨by rfl, ?_⟩) hHeld ?_ ?_
     rotate_left
     ·rintro w' ⟨s0, s1, s2, s3, s4, s5⟩
      go_simp
      with_reducible rfl
     rotate_left
     ·simp only [Act.put, List.setIfInBounds_toArray, List.set_cons_zero, List.set_cons_succ, i64_w, i32_w]
      rfl
     refine take_ (i := 1) (N := some 23) (v := ?_) (a' := ?_) #[true, true, false, false, false] rfl rfl (by kernel_rfl) (fun _ _ _ h => h) (Or.inl ⟨by rfl, ?_⟩) hHeld ?_ ?_
     rotate_left
     ·rintro w' ⟨s0, s1, s2, s3, s4, s5⟩
      go_simp
      with_reducible rfl
     rotate_left
     ·simp only [Act.put, List.setIfInBounds_toArray, List.set_cons_zero, List.set_cons_succ, i64_w, i32_w]
      rfl
     refine one_ (i := 2) (N := some 24) #[true, true, true, false, false] rfl rfl (by kernel_rfl) (by decide) (fun K hK => ?_)
     refine goes_ Try.func39 (by kernel_rfl) rfl #[.agg #[.int .i64 a0_0, .int .i64 a0_1, .slice A0_2 l0_2.length c0_2]] (by rfl) rfl rfl na_ ?_
     with_reducible refine (laws_toPlan.calls k a0_0 a0_1 _ _ l0_2 t554 t555 t556 _ ?side1 ?side2 A26.out).mono ?_
     (case side1 => exact nc_ (Kd.C_below HR0_2.out HB.out))
     (case side2 => exact HC0_2.out)
     rintro e w62 ⟨v557, rfl, ho0, hb⟩
     refine ⟨_, rfl, ?_⟩
     have n0_ := Aside0.mk (Kd.R_elder' (nr_ HO545.out) (Kd.R_base ho0) hb)
     have n1_ := Aside0.mk (Kd.R_elder' (nr_ HO551.out) (Kd.R_base ho0) hb)
     have n2_ := Aside0.mk (Kd.R_lower (Kd.R_new' (Kd.R_new' ho0 (Kd.R_lt (nr_ HO545.out))) (Kd.R_lt (nr_ HO551.out))) (below_size (ne_ HB.out)))
     have n3_ := Aside0.mk (blk_below (g := gb539) (o := .cells #[.int .i64 a0_0, .int .i64 a0_1, .slice A0_2 l0_2.length c0_2] 49 (0, 0)) (nb_ BK539.out) hb)
     have n4_ := Aside0.mk (blk_below (g := gb552) (o := .cells #[.int .i64 t547, .int .i64 t548, .slice Ao59 t549.length co59] 54 (0, 0)) (nb_ BK552.out) hb)
     have n5_ := Aside0.mk (below_step (ne_ HB.out) hb)
     clear HO545
     clear HO551
     clear BK539
     clear BK552
     clear HB
     have HO545 := n0_
     have HO551 := n1_
     have HO558 := n2_
     have BK539 := n3_
     have BK552 := n4_
     have HB := n5_
     clear n0_ n1_ n2_ n3_ n4_ n5_
     (try clear hb)
     (try clear hb2)
     (try clear hk)
     (try clear hi)
     (try clear ho0)
     obtain ⟨Ao63, co63, eo63⟩ := Kd.R_slice HO558.out
     (first | subst eo63 | (injection eo63 with f1_ f2_ f3_; have f4_ := f1_.symm; have f5_ := f3_.symm; clear f1_ f2_ f3_; subst f4_; subst f5_))
     refine hK.out _ _ ⟨(bC8 BK552.out 0).trans rfl, (bC8 BK552.out 1).trans rfl, (bC8 BK552.out 2).trans rfl, (bC8 BK539.out 0).trans rfl, (bC8 BK539.out 1).trans rfl, (bC8 BK539.out 2).trans rfl⟩ (fun hHeld => ?_)
     clear hK K
     refine norm_ (a' := ?_) ?_ ?_
     rotate_left
     ·show Act.put _ (some 24) _ = _
      simp only [Act.put, List.setIfInBounds_toArray, List.set_cons_zero, List.set_cons_succ, i64_w, i32_w]
      rfl
     refine one_ (i := 3) (N := some 25) #[true, true, true, true, false] rfl rfl (by kernel_rfl) (by decide) (fun K hK => ?_)
     refine goes_ Try.func41 (by kernel_rfl) rfl #[.agg #[.int .i64 t547, .int .i64 t548, .slice Ao59 t549.length co59], .agg #[.int .i64 t554, .int .i64 t555, .slice Ao63 t556.length co63]] (by rfl) rfl rfl na_ ?_
     with_reducible refine (laws_eqPlan.calls k t547 t548 _ _ t549 t554 t555 _ _ t556 false _ ?side1 ?side2 ?side3 ?side4 A27.out).mono ?_
     (case side1 => exact nc_ (Kd.R_reads' HO551.out).2.2)
     (case side2 => exact (Kd.R_reads' HO551.out).2.1)
     (case side3 => exact nc_ (Kd.R_reads' HO558.out).2.2)
     (case side4 => exact (Kd.R_reads' HO558.out).2.1)
     rintro e w64 ⟨rfl, hb⟩
     refine ⟨_, rfl, ?_⟩
     have n0_ := Aside0.mk (Kd.R_below (nr_ HO545.out) hb)
     have n1_ := Aside0.mk (Kd.R_below (nr_ HO551.out) hb)
     have n2_ := Aside0.mk (Kd.R_below (nr_ HO558.out) hb)
     have n3_ := Aside0.mk (blk_below (g := gb539) (o := .cells #[.int .i64 a0_0, .int .i64 a0_1, .slice A0_2 l0_2.length c0_2] 49 (0, 0)) (nb_ BK539.out) hb)
     have n4_ := Aside0.mk (blk_below (g := gb552) (o := .cells #[.int .i64 t547, .int .i64 t548, .slice Ao59 t549.length co59] 54 (0, 0)) (nb_ BK552.out) hb)
     have n5_ := Aside0.mk (below_step (ne_ HB.out) hb)
     clear HO545
     clear HO551
     clear HO558
     clear BK539
     clear BK552
     clear HB
     have HO545 := n0_
     have HO551 := n1_
     have HO558 := n2_
     have BK539 := n3_
     have BK552 := n4_
     have HB := n5_
     clear n0_ n1_ n2_ n3_ n4_ n5_
     (try clear hb)
     (try clear hb2)
     (try clear hk)
     (try clear hi)
     refine hK.out _ _ ⟨(bC8 BK552.out 0).trans rfl, (bC8 BK552.out 1).trans rfl, (bC8 BK552.out 2).trans rfl, (bC8 BK539.out 0).trans rfl, (bC8 BK539.out 1).trans rfl, (bC8 BK539.out 2).trans rfl⟩ (fun hHeld => ?_)
     clear hK K
     refine norm_ (a' := ?_) ?_ ?_
     rotate_left
     ·show Act.put _ (some 25) _ = _
      simp only [Act.put, List.setIfInBounds_toArray, List.set_cons_zero, List.set_cons_succ, i64_w, i32_w]
      rfl
     refine pure_ (i := 4) (N := some 26) (v := ?_) (a' := ?_) #[true, true, true, true, true] rfl rfl (by kernel_rfl) (fun _ _ _ h => h) (Or.inl ⟨by rfl, ?_⟩) ?_ ?_
     rotate_left
     ·intro w'
      go_simp
      with_reducible rfl
     rotate_left
     ·simp only [Act.put, List.setIfInBounds_toArray, List.set_cons_zero, List.set_cons_succ, i64_w, i32_w]
      rfl
     refine done_ (by kernel_rfl) ?_
     try go_wp2
     go_ret
     exact ⟨by first | rfl | (simp [errW_none, errW_some] <;> rfl) | (simp [*, errW_none, errW_some] <;> rfl), by repeat (first | (with_reducible first | exact HB.out | apply below_alloc | apply pw_below_drewN | apply below_drew1 | refine below_set ?_ GE539.out | refine below_set ?_ GE552.out) | exact HB.out)⟩

/-- THE ONE PURE STATEMENT of laws_FnExactPlanOk. -/
def laws_FnExactPlanOk.Pure : Prop := ∀ (a0_0 : Int) (a0_1 : Int) (l0_2 : List (S109)), (Lit.int .i64 a0_0).wf = true → (Lit.int .i64 a0_1).wf = true → l0_2.length ≤ maxLen → (∀ x ∈ l0_2, (Lit.int .i64 x.f0).wf = true ∧ (Lit.int .i64 x.f1).wf = true ∧ (Lit.int .i64 x.f2).wf = true ∧ (Lit.int .i64 x.f3).wf = true ∧ (Lit.int .i64 x.f4).wf = true) → ∃ k, laws_FnExactPlanOk.f k a0_0 a0_1 l0_2 = some true
theorem laws_FnExactPlanOk.walk (P : laws_FnExactPlanOk.Pure) (a0_0 : Int) (a0_1 : Int) (A0_2 : Option Addr) (c0_2 : Nat) (l0_2 : List (S109)) (w : World) (hw0_0 : (Lit.int .i64 a0_0).wf = true) (hw0_1 : (Lit.int .i64 a0_1).wf = true) (hr0_2 : Kd.C k109 w A0_2 l0_2.length l0_2) (hm0_2 : l0_2.length ≤ maxLen) (hw0_2 : ∀ x ∈ l0_2, (Lit.int .i64 x.f0).wf = true ∧ (Lit.int .i64 x.f1).wf = true ∧ (Lit.int .i64 x.f2).wf = true ∧ (Lit.int .i64 x.f3).wf = true ∧ (Lit.int .i64 x.f4).wf = true) (hc0_2 : l0_2.length ≤ c0_2) :
    Calls Try.prog 8 #[.agg #[.int .i64 a0_0, .int .i64 a0_1, .slice A0_2 l0_2.length c0_2]] w fun e w' => e = .returned (.bool true) ∧ Below w.heap.size w w' := by
  obtain ⟨k, h⟩ := P a0_0 a0_1 l0_2 hw0_0 hw0_1 hm0_2 hw0_2
  refine (laws_FnExactPlanOk.calls k a0_0 a0_1 A0_2 c0_2 l0_2 true w hr0_2 hc0_2 h).mono ?_
  rintro e w' ⟨rfl, hd⟩
  exact ⟨rfl, hd⟩

end Go.Proofs.Ytpjmkghmjpbldaa.Print
