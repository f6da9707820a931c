-- Made by this session's own program (wip/patch_print.py, over the kit's print). Lean checks it.
import Derived.Test.YtpjmkghmjpbldaaPrint0
import Derived.Test.YtpjmkghmjpbldaaPrintB
import Derived.Test.YtpjmkghmjpbldaaPrintF49
import Derived.Test.YtpjmkghmjpbldaaPrintF50
import Derived.Test.YtpjmkghmjpbldaaPrintF51
namespace Go.Proofs.Ytpjmkghmjpbldaa.Print
open Go.RowKit Go.Proofs.YtpjmkghmjpbldaaW.PrintWords Go.Proofs.YtpjmkghmjpbldaaW.PrintLast Go.Proofs.YtpjmkghmjpbldaaW.PrintMore Go.Proofs.YtpjmkghmjpbldaaX
attribute [local go_sem] max2_int min2_int max_two min_two max_three min_three max_four min_four   -- for this text's walks alone
set_option linter.unusedVariables false
set_option linter.unusedSimpArgs false

abbrev rR13 := @Kd.R_reads'
/-! ### laws_FnWalkNodes: function 13 -/
mutual
def laws_FnWalkNodes.j0 : Nat → List Int → List Int → Bool → Int → List (S37) → Option (Bool)
  | 0, _, _, _, _, _ => none
  | k + 1, x4, x5, x28, x812000, x812001 => if x28 = true then ((spec_WalkNodes.f k x812000 x812001 x4).bind fun t819 => ((laws_wkInts.f k x5 t819).bind fun t822 => (some t822))) else (laws_FnWalkNodes.l0 k x4 x5 0 x812000 x812001)
def laws_FnWalkNodes.l0 : Nat → List Int → List Int → Int → Int → List (S37) → Option (Bool)
  | 0, _, _, _, _, _ => none
  | k + 1, x4, x5, x6, x812000, x812001 => if x6 < (x4.length : Int) then (if 0 ≤ x6 then (if 0 ≤ (rd x4 x6) then (if (rd x4 x6) < (x812001.length : Int) then (if x6 < (x5.length : Int) then (if ((rd_T37 x812001 (rd x4 x6)).f0) = (rd x5 x6) then (if 0 ≤ (wrap64 (x6 + 1)) then (if (wrap64 (x6 + 1)) < (x5.length : Int) then (if ((rd_T37 x812001 (rd x4 x6)).f1) = (rd x5 (wrap64 (x6 + 1))) then (laws_FnWalkNodes.l0 k x4 x5 (wrap64 (x6 + 1)) x812000 x812001) else (some false)) else (none)) else (none)) else (some false)) else (none)) else (none)) else (none)) else (none)) else (some ((x5.length : Int) == (wrap64 ((x4.length : Int) + 1))))
end
def laws_FnWalkNodes.f (k : Nat) (l0 : List Int) : Option (Bool) := if (l0.length : Int) > 1048576 then (some true) else ((spec_DrawWalkNodes.f k l0).bind fun bt804 => ((impl_WalkNodes.f k bt804.1 bt804.2.1 bt804.2.2).bind fun t812 => ((spec_WalkNodes.f k bt804.1 bt804.2.1 bt804.2.2).bind fun t815 => ((laws_wkInts.f k t812 t815).bind fun t818 => (if t818 = true then (laws_FnWalkNodes.j0 k bt804.2.2 t812 ((t812.length : Int) == 0) bt804.1 bt804.2.1) else (laws_FnWalkNodes.j0 k bt804.2.2 t812 true bt804.1 bt804.2.1))))))
theorem laws_FnWalkNodes.mono_l : ∀ k, (∀ y0 y1 y2 y3 y4, LeO (laws_FnWalkNodes.j0 k y0 y1 y2 y3 y4) (laws_FnWalkNodes.j0 (k + 1) y0 y1 y2 y3 y4)) ∧ (∀ y0 y1 y2 y3 y4, LeO (laws_FnWalkNodes.l0 k y0 y1 y2 y3 y4) (laws_FnWalkNodes.l0 (k + 1) y0 y1 y2 y3 y4))
  | 0 => ⟨fun _ _ _ _ _ r h => by simp [laws_FnWalkNodes.j0] at h, fun _ _ _ _ _ r h => by simp [laws_FnWalkNodes.l0] at h⟩
  | k + 1 => by
    obtain ⟨ih0, ih1⟩ := laws_FnWalkNodes.mono_l k
    refine ⟨?_, ?_⟩
    · intro y0 y1 y2 y3 y4
      unfold laws_FnWalkNodes.j0
      repeat' first
      | (with_reducible exact ih0 _ _ _ _ _)
      | (with_reducible exact ih1 _ _ _ _ _)
      | (with_reducible exact impl_WalkNodes.mono _ _ _ _)
      | (with_reducible exact laws_wkInts.mono _ _ _)
      | (with_reducible exact spec_DrawWalkNodes.mono _ _)
      | (with_reducible exact spec_WalkNodes.mono _ _ _ _)
      | (with_reducible exact LeO.refl _)
      | (with_reducible exact LeO.none _)
      | (with_reducible refine LeO.ite ?_ ?_)
      | (with_reducible refine LeO.bind ?_ (fun _ => ?_))
      | exact ih0 _ _ _ _ _
      | exact ih1 _ _ _ _ _
      | exact impl_WalkNodes.mono _ _ _ _
      | exact laws_wkInts.mono _ _ _
      | exact spec_DrawWalkNodes.mono _ _
      | exact spec_WalkNodes.mono _ _ _ _
      | exact LeO.none _
      | refine LeO.ite ?_ ?_
      | refine LeO.bind ?_ (fun _ => ?_)
    · intro y0 y1 y2 y3 y4
      unfold laws_FnWalkNodes.l0
      repeat' first
      | (with_reducible exact ih0 _ _ _ _ _)
      | (with_reducible exact ih1 _ _ _ _ _)
      | (with_reducible exact impl_WalkNodes.mono _ _ _ _)
      | (with_reducible exact laws_wkInts.mono _ _ _)
      | (with_reducible exact spec_DrawWalkNodes.mono _ _)
      | (with_reducible exact spec_WalkNodes.mono _ _ _ _)
      | (with_reducible exact LeO.refl _)
      | (with_reducible exact LeO.none _)
      | (with_reducible refine LeO.ite ?_ ?_)
      | (with_reducible refine LeO.bind ?_ (fun _ => ?_))
      | exact ih0 _ _ _ _ _
      | exact ih1 _ _ _ _ _
      | exact impl_WalkNodes.mono _ _ _ _
      | exact laws_wkInts.mono _ _ _
      | exact spec_DrawWalkNodes.mono _ _
      | exact spec_WalkNodes.mono _ _ _ _
      | exact LeO.none _
      | refine LeO.ite ?_ ?_
      | refine LeO.bind ?_ (fun _ => ?_)
theorem laws_FnWalkNodes.mono : ∀ a0 k, LeO (laws_FnWalkNodes.f k a0) (laws_FnWalkNodes.f (k + 1) a0) := by
  intro a0 k
  obtain ⟨ih0, ih1⟩ := laws_FnWalkNodes.mono_l k
  unfold laws_FnWalkNodes.f
  repeat' first
      | (with_reducible exact ih0 _ _ _ _ _)
      | (with_reducible exact ih1 _ _ _ _ _)
      | (with_reducible exact impl_WalkNodes.mono _ _ _ _)
      | (with_reducible exact laws_wkInts.mono _ _ _)
      | (with_reducible exact spec_DrawWalkNodes.mono _ _)
      | (with_reducible exact spec_WalkNodes.mono _ _ _ _)
      | (with_reducible exact LeO.refl _)
      | (with_reducible exact LeO.none _)
      | (with_reducible refine LeO.ite ?_ ?_)
      | (with_reducible refine LeO.bind ?_ (fun _ => ?_))
      | exact ih0 _ _ _ _ _
      | exact ih1 _ _ _ _ _
      | exact impl_WalkNodes.mono _ _ _ _
      | exact laws_wkInts.mono _ _ _
      | exact spec_DrawWalkNodes.mono _ _
      | exact spec_WalkNodes.mono _ _ _ _
      | exact LeO.none _
      | refine LeO.ite ?_ ?_
      | refine LeO.bind ?_ (fun _ => ?_)
set_option maxHeartbeats 8000000 in
set_option maxRecDepth 100000 in
theorem laws_FnWalkNodes.calls (k : Nat) (A0 : Option Addr) (c0 : Nat) (l0 : List Int) (r : Bool) (w : World) (hr0 : Kd.C (Kd.int .u8) w A0 l0.length l0) (hc0 : l0.length ≤ c0) (h : laws_FnWalkNodes.f k l0 = some r) :
    Calls Try.prog 13 #[.slice A0 l0.length c0] w fun e w' => e = .returned (.bool r) ∧ Below w.heap.size w w' := by
  have hu29 := Try.underlying29
  have HR0 := Aside0.mk hr0
  have HC0 := Aside0.mk hc0
  clear hr0 hc0
  have HB := Aside0.mk (Below.refl w.heap.size w)
  have H : (if (l0.length : Int) > 1048576 then (some true) else ((spec_DrawWalkNodes.f k l0).bind fun bt804 => ((impl_WalkNodes.f k bt804.1 bt804.2.1 bt804.2.2).bind fun t812 => ((spec_WalkNodes.f k bt804.1 bt804.2.1 bt804.2.2).bind fun t815 => ((laws_wkInts.f k t812 t815).bind fun t818 => (if t818 = true then (laws_FnWalkNodes.j0 k bt804.2.2 t812 ((t812.length : Int) == 0) bt804.1 bt804.2.1) else (laws_FnWalkNodes.j0 k bt804.2.2 t812 true bt804.1 bt804.2.1))))))) = some r := h
  clear h
  by_cases c2 : (l0.length : Int) > 1048576
  ·rw [if_pos c2] at H
   have c2b0 : decide (1048576 < (l0.length : Int)) = true := decide_eq_true c2
   have c2b1 : decide (1048576 < l0.length) = true := decide_eq_true (by omega)
   clear c2
   obtain rfl := Option.some.inj H
   go_enter Try.func13, Try.ntmps13
   go_wp2
   repeat (go_quiet (fail); try go_wp2)
   go_ret
   exact ⟨by first | rfl | (simp [errW_none, errW_some] <;> rfl) | (simp [*, errW_none, errW_some] <;> rfl), by repeat (first | (with_reducible first | exact HB.out | apply below_alloc | apply pw_below_drewN | apply below_drew1) | exact HB.out)⟩
  ·rw [if_neg c2] at H
   have c2b0 : decide (1048576 < (l0.length : Int)) = false := decide_eq_false c2
   have c2b1 : decide (1048576 < l0.length) = false := decide_eq_false (by omega)
   clear c2
   replace H := Option.bind_eq_some_iff.mp H
   obtain ⟨⟨t804, t805, t808⟩, A30, H⟩ := H
   replace H : ((impl_WalkNodes.f k t804 t805 t808).bind fun t812 => ((spec_WalkNodes.f k t804 t805 t808).bind fun t815 => ((laws_wkInts.f k t812 t815).bind fun t818 => (if t818 = true then (laws_FnWalkNodes.j0 k t808 t812 ((t812.length : Int) == 0) t804 t805) else (laws_FnWalkNodes.j0 k t808 t812 true t804 t805))))) = some r := H
   have A3 := Aside0.mk A30
   clear A30
   replace H := Option.bind_eq_some_iff.mp H
   obtain ⟨t812, A40, H⟩ := H
   replace H : ((spec_WalkNodes.f k t804 t805 t808).bind fun t815 => ((laws_wkInts.f k t812 t815).bind fun t818 => (if t818 = true then (laws_FnWalkNodes.j0 k t808 t812 ((t812.length : Int) == 0) t804 t805) else (laws_FnWalkNodes.j0 k t808 t812 true t804 t805)))) = some r := H
   have A4 := Aside0.mk A40
   clear A40
   have HC5 := Aside0.mk H
   clear H
   go_enter Try.func13, Try.ntmps13
   go_upto_region 5 with (first | (go_at_call 49; (with_reducible refine (spec_DrawWalkNodes.calls k _ _ l0 t804 t805 t808 _ ?side1 ?side2 A3.out).mono ?_); (case side1 => repeat (first | exact HR0.out | (with_reducible refine Kd.C_alloc ?_ _) | (with_reducible refine Kd.C_drewN ?_ _) | (with_reducible refine Kd.C_drew ?_))); (case side2 => exact HC0.out); rintro e w6 ⟨v806, v809, rfl, ho0, ho1, hb⟩; have n0_ := Aside0.mk (Kd.R_lower ho0 (below_size (ne_ HB.out))); have n1_ := Aside0.mk (Kd.R_lower ho1 (below_size (ne_ HB.out))); have n2_ := Aside0.mk (below_step (ne_ HB.out) hb); clear HB; have HO807 := n0_; have HO810 := n1_; have HB := n2_; clear n0_ n1_ n2_; (try clear hb); (try clear hb2); (try clear hk); (try clear hi); (try clear ho0); (try clear ho1)) | ((with_reducible refine gate_dst (N := 3) rfl ?_); (try (refine gate_guard (by rfl) ?_; dsimp only)); refine box_event ?hg (N := 3) ?hd (cs := #[.int .i64 0, .slice none 0 0]) (t := 29) ?hr ?_; (case hd => rfl); (case hg => rfl); (case hr => first | (go_simp; done) | (go_simp; rfl)); intro gb811 hg w7 hbox hb; have n0_ := Aside0.mk (Kd.R_below (nr_ HO807.out) hb); have n1_ := Aside0.mk (Kd.R_below (nr_ HO810.out) hb); have n2_ := Aside0.mk (below_step (ne_ HB.out) hb); have n3_ := Aside0.mk (hbox); have n4_ := Aside0.mk ((by rw [hg]; exact (below_size (ne_ HB.out)) : w.heap.size ≤ gb811)); have n5_ := Aside0.mk ((by rw [hg]; exact (below_size (ne_ HB.out)) : w.heap.size ≤ gb811)); clear HO807; clear HO810; clear HB; have HO807 := n0_; have HO810 := n1_; have HB := n2_; have BK811 := n3_; have GW811 := n4_; have GE811 := n5_; clear n0_ n1_ n2_ n3_ n4_ n5_; clear hb hbox hg; have hcz8_0 : w7.cell? ⟨gb811, 0, none⟩ = some (.int .i64 0) := (blk_cell BK811.out 0).trans rfl; have hcz8_1 : w7.cell? ⟨gb811, 1, none⟩ = some (.slice none 0 0) := (blk_cell BK811.out 1).trans rfl; have hfz8_0 := blk_frozen BK811.out 0; have hfz8_1 := blk_frozen BK811.out 1; obtain ⟨Ao9, co9, eo9⟩ := Kd.R_slice HO807.out; subst eo9; obtain ⟨Ao10, co10, eo10⟩ := Kd.R_slice HO810.out; subst eo10) | (go_at_call 50; (with_reducible refine (impl_WalkNodes.calls k t804 _ _ t805 _ _ t808 t812 _ ?side1 ?side2 ?side3 ?side4 A4.out).mono ?_); (case side1 => refine (rR13 (e := 37) (base := w.heap.size) (ok := fun k_ => True) (n := t805.length) (c := co9) ?_).2.2; exact (by (with_reducible repeat (first | apply Kd.R_alloc | apply Kd.R_drewN | apply Kd.R_drew)); exact (Kd.R_mono (Kd.R_far (p := ⟨gb811, 1, none⟩) (Kd.R_far (p := ⟨gb811, 0, none⟩) (Kd.R_types HO807.out BK811.out (by decide)) (fun _ hk => hk.2) (.int .i64 t804)) (fun _ hk => hk.2) (.slice Ao9 t805.length co9)) (fun _ h_ => h_.1)))); (case side2 => exact (rR13 HO807.out).2.1); (case side3 => refine (rR13 (e := 3) (base := w.heap.size) (ok := fun k_ => True) (n := t808.length) (c := co10) ?_).2.2; exact (by (with_reducible repeat (first | apply Kd.R_alloc | apply Kd.R_drewN | apply Kd.R_drew)); exact (Kd.R_mono (Kd.R_far (p := ⟨gb811, 1, none⟩) (Kd.R_far (p := ⟨gb811, 0, none⟩) (Kd.R_types HO810.out BK811.out (by decide)) (fun _ hk => hk.2) (.int .i64 t804)) (fun _ hk => hk.2) (.slice Ao9 t805.length co9)) (fun _ h_ => h_.1)))); (case side4 => exact (rR13 HO810.out).2.1); rintro e w11 ⟨v813, rfl, ho0, hb⟩; have n0_ := Aside0.mk (Kd.R_below (by (with_reducible repeat (first | apply Kd.R_alloc | apply Kd.R_drewN | apply Kd.R_drew)); exact (Kd.R_mono (Kd.R_far (p := ⟨gb811, 1, none⟩) (Kd.R_far (p := ⟨gb811, 0, none⟩) (Kd.R_types HO807.out BK811.out (by decide)) (fun _ hk => hk.2) (.int .i64 t804)) (fun _ hk => hk.2) (.slice Ao9 t805.length co9)) (fun _ h_ => h_.1))) hb); have n1_ := Aside0.mk (Kd.R_elder' (by (with_reducible repeat (first | apply Kd.R_alloc | apply Kd.R_drewN | apply Kd.R_drew)); exact (Kd.R_mono (Kd.R_far (p := ⟨gb811, 1, none⟩) (Kd.R_far (p := ⟨gb811, 0, none⟩) (Kd.R_types HO810.out BK811.out (by decide)) (fun _ hk => hk.2) (.int .i64 t804)) (fun _ hk => hk.2) (.slice Ao9 t805.length co9)) (fun _ h_ => h_.1))) (Kd.R_base ho0) hb); have n2_ := Aside0.mk (Kd.R_lower (Kd.R_new' ho0 (Kd.R_lt (by (with_reducible repeat (first | apply Kd.R_alloc | apply Kd.R_drewN | apply Kd.R_drew)); exact (Kd.R_mono (Kd.R_far (p := ⟨gb811, 1, none⟩) (Kd.R_far (p := ⟨gb811, 0, none⟩) (Kd.R_types HO810.out BK811.out (by decide)) (fun _ hk => hk.2) (.int .i64 t804)) (fun _ hk => hk.2) (.slice Ao9 t805.length co9)) (fun _ h_ => h_.1))))) (below_size (ne_ HB.out))); have n3_ := Aside0.mk (blk_below (g := gb811) (o := .cells #[.int .i64 t804, .slice Ao9 t805.length co9] 29 (0, 0)) (by (with_reducible repeat (first | refine blk_drewN ?_ _ | refine blk_drew ?_ | refine blk_alloc ?_ _)); refine blk_put (cs := #[.int .i64 t804, .slice none 0 0]) ?_ 1 _ rfl; (with_reducible repeat (first | refine blk_drewN ?_ _ | refine blk_drew ?_ | refine blk_alloc ?_ _)); refine blk_put (cs := #[.int .i64 0, .slice none 0 0]) ?_ 0 _ rfl; (with_reducible repeat (first | refine blk_drewN ?_ _ | refine blk_drew ?_ | refine blk_alloc ?_ _)); exact BK811.out) hb); have n4_ := Aside0.mk (below_step (ne_ HB.out) hb); clear HO807; clear HO810; clear BK811; clear HB; have HO807 := n0_; have HO810 := n1_; have HO814 := n2_; have BK811 := n3_; have HB := n4_; clear n0_ n1_ n2_ n3_ n4_; (try clear hb); (try clear hb2); (try clear hk); (try clear hi); (try clear ho0)))
   repeat (go_quiet (first | (go_at_call 49; (with_reducible refine (spec_DrawWalkNodes.calls k _ _ l0 t804 t805 t808 _ ?side1 ?side2 A3.out).mono ?_); (case side1 => repeat (first | exact HR0.out | (with_reducible refine Kd.C_alloc ?_ _) | (with_reducible refine Kd.C_drewN ?_ _) | (with_reducible refine Kd.C_drew ?_))); (case side2 => exact HC0.out); rintro e w6 ⟨v806, v809, rfl, ho0, ho1, hb⟩; have n0_ := Aside0.mk (Kd.R_lower ho0 (below_size (ne_ HB.out))); have n1_ := Aside0.mk (Kd.R_lower ho1 (below_size (ne_ HB.out))); have n2_ := Aside0.mk (below_step (ne_ HB.out) hb); clear HB; have HO807 := n0_; have HO810 := n1_; have HB := n2_; clear n0_ n1_ n2_; (try clear hb); (try clear hb2); (try clear hk); (try clear hi); (try clear ho0); (try clear ho1)) | ((with_reducible refine gate_dst (N := 3) rfl ?_); (try (refine gate_guard (by rfl) ?_; dsimp only)); refine box_event ?hg (N := 3) ?hd (cs := #[.int .i64 0, .slice none 0 0]) (t := 29) ?hr ?_; (case hd => rfl); (case hg => rfl); (case hr => first | (go_simp; done) | (go_simp; rfl)); intro gb811 hg w7 hbox hb; have n0_ := Aside0.mk (Kd.R_below (nr_ HO807.out) hb); have n1_ := Aside0.mk (Kd.R_below (nr_ HO810.out) hb); have n2_ := Aside0.mk (below_step (ne_ HB.out) hb); have n3_ := Aside0.mk (hbox); have n4_ := Aside0.mk ((by rw [hg]; exact (below_size (ne_ HB.out)) : w.heap.size ≤ gb811)); have n5_ := Aside0.mk ((by rw [hg]; exact (below_size (ne_ HB.out)) : w.heap.size ≤ gb811)); clear HO807; clear HO810; clear HB; have HO807 := n0_; have HO810 := n1_; have HB := n2_; have BK811 := n3_; have GW811 := n4_; have GE811 := n5_; clear n0_ n1_ n2_ n3_ n4_ n5_; clear hb hbox hg; have hcz8_0 : w7.cell? ⟨gb811, 0, none⟩ = some (.int .i64 0) := (blk_cell BK811.out 0).trans rfl; have hcz8_1 : w7.cell? ⟨gb811, 1, none⟩ = some (.slice none 0 0) := (blk_cell BK811.out 1).trans rfl; have hfz8_0 := blk_frozen BK811.out 0; have hfz8_1 := blk_frozen BK811.out 1; obtain ⟨Ao9, co9, eo9⟩ := Kd.R_slice HO807.out; subst eo9; obtain ⟨Ao10, co10, eo10⟩ := Kd.R_slice HO810.out; subst eo10) | (go_at_call 50; (with_reducible refine (impl_WalkNodes.calls k t804 _ _ t805 _ _ t808 t812 _ ?side1 ?side2 ?side3 ?side4 A4.out).mono ?_); (case side1 => refine (rR13 (e := 37) (base := w.heap.size) (ok := fun k_ => True) (n := t805.length) (c := co9) ?_).2.2; exact (by (with_reducible repeat (first | apply Kd.R_alloc | apply Kd.R_drewN | apply Kd.R_drew)); exact (Kd.R_mono (Kd.R_far (p := ⟨gb811, 1, none⟩) (Kd.R_far (p := ⟨gb811, 0, none⟩) (Kd.R_types HO807.out BK811.out (by decide)) (fun _ hk => hk.2) (.int .i64 t804)) (fun _ hk => hk.2) (.slice Ao9 t805.length co9)) (fun _ h_ => h_.1)))); (case side2 => exact (rR13 HO807.out).2.1); (case side3 => refine (rR13 (e := 3) (base := w.heap.size) (ok := fun k_ => True) (n := t808.length) (c := co10) ?_).2.2; exact (by (with_reducible repeat (first | apply Kd.R_alloc | apply Kd.R_drewN | apply Kd.R_drew)); exact (Kd.R_mono (Kd.R_far (p := ⟨gb811, 1, none⟩) (Kd.R_far (p := ⟨gb811, 0, none⟩) (Kd.R_types HO810.out BK811.out (by decide)) (fun _ hk => hk.2) (.int .i64 t804)) (fun _ hk => hk.2) (.slice Ao9 t805.length co9)) (fun _ h_ => h_.1)))); (case side4 => exact (rR13 HO810.out).2.1); rintro e w11 ⟨v813, rfl, ho0, hb⟩; have n0_ := Aside0.mk (Kd.R_below (by (with_reducible repeat (first | apply Kd.R_alloc | apply Kd.R_drewN | apply Kd.R_drew)); exact (Kd.R_mono (Kd.R_far (p := ⟨gb811, 1, none⟩) (Kd.R_far (p := ⟨gb811, 0, none⟩) (Kd.R_types HO807.out BK811.out (by decide)) (fun _ hk => hk.2) (.int .i64 t804)) (fun _ hk => hk.2) (.slice Ao9 t805.length co9)) (fun _ h_ => h_.1))) hb); have n1_ := Aside0.mk (Kd.R_elder' (by (with_reducible repeat (first | apply Kd.R_alloc | apply Kd.R_drewN | apply Kd.R_drew)); exact (Kd.R_mono (Kd.R_far (p := ⟨gb811, 1, none⟩) (Kd.R_far (p := ⟨gb811, 0, none⟩) (Kd.R_types HO810.out BK811.out (by decide)) (fun _ hk => hk.2) (.int .i64 t804)) (fun _ hk => hk.2) (.slice Ao9 t805.length co9)) (fun _ h_ => h_.1))) (Kd.R_base ho0) hb); have n2_ := Aside0.mk (Kd.R_lower (Kd.R_new' ho0 (Kd.R_lt (by (with_reducible repeat (first | apply Kd.R_alloc | apply Kd.R_drewN | apply Kd.R_drew)); exact (Kd.R_mono (Kd.R_far (p := ⟨gb811, 1, none⟩) (Kd.R_far (p := ⟨gb811, 0, none⟩) (Kd.R_types HO810.out BK811.out (by decide)) (fun _ hk => hk.2) (.int .i64 t804)) (fun _ hk => hk.2) (.slice Ao9 t805.length co9)) (fun _ h_ => h_.1))))) (below_size (ne_ HB.out))); have n3_ := Aside0.mk (blk_below (g := gb811) (o := .cells #[.int .i64 t804, .slice Ao9 t805.length co9] 29 (0, 0)) (by (with_reducible repeat (first | refine blk_drewN ?_ _ | refine blk_drew ?_ | refine blk_alloc ?_ _)); refine blk_put (cs := #[.int .i64 t804, .slice none 0 0]) ?_ 1 _ rfl; (with_reducible repeat (first | refine blk_drewN ?_ _ | refine blk_drew ?_ | refine blk_alloc ?_ _)); refine blk_put (cs := #[.int .i64 0, .slice none 0 0]) ?_ 0 _ rfl; (with_reducible repeat (first | refine blk_drewN ?_ _ | refine blk_drew ?_ | refine blk_alloc ?_ _)); exact BK811.out) hb); have n4_ := Aside0.mk (below_step (ne_ HB.out) hb); clear HO807; clear HO810; clear BK811; clear HB; have HO807 := n0_; have HO810 := n1_; have HO814 := n2_; have BK811 := n3_; have HB := n4_; clear n0_ n1_ n2_ n3_ n4_; (try clear hb); (try clear hb2); (try clear hk); (try clear hi); (try clear ho0))); go_upto_region 5 with (first | (go_at_call 49; (with_reducible refine (spec_DrawWalkNodes.calls k _ _ l0 t804 t805 t808 _ ?side1 ?side2 A3.out).mono ?_); (case side1 => repeat (first | exact HR0.out | (with_reducible refine Kd.C_alloc ?_ _) | (with_reducible refine Kd.C_drewN ?_ _) | (with_reducible refine Kd.C_drew ?_))); (case side2 => exact HC0.out); rintro e w6 ⟨v806, v809, rfl, ho0, ho1, hb⟩; have n0_ := Aside0.mk (Kd.R_lower ho0 (below_size (ne_ HB.out))); have n1_ := Aside0.mk (Kd.R_lower ho1 (below_size (ne_ HB.out))); have n2_ := Aside0.mk (below_step (ne_ HB.out) hb); clear HB; have HO807 := n0_; have HO810 := n1_; have HB := n2_; clear n0_ n1_ n2_; (try clear hb); (try clear hb2); (try clear hk); (try clear hi); (try clear ho0); (try clear ho1)) | ((with_reducible refine gate_dst (N := 3) rfl ?_); (try (refine gate_guard (by rfl) ?_; dsimp only)); refine box_event ?hg (N := 3) ?hd (cs := #[.int .i64 0, .slice none 0 0]) (t := 29) ?hr ?_; (case hd => rfl); (case hg => rfl); (case hr => first | (go_simp; done) | (go_simp; rfl)); intro gb811 hg w7 hbox hb; have n0_ := Aside0.mk (Kd.R_below (nr_ HO807.out) hb); have n1_ := Aside0.mk (Kd.R_below (nr_ HO810.out) hb); have n2_ := Aside0.mk (below_step (ne_ HB.out) hb); have n3_ := Aside0.mk (hbox); have n4_ := Aside0.mk ((by rw [hg]; exact (below_size (ne_ HB.out)) : w.heap.size ≤ gb811)); have n5_ := Aside0.mk ((by rw [hg]; exact (below_size (ne_ HB.out)) : w.heap.size ≤ gb811)); clear HO807; clear HO810; clear HB; have HO807 := n0_; have HO810 := n1_; have HB := n2_; have BK811 := n3_; have GW811 := n4_; have GE811 := n5_; clear n0_ n1_ n2_ n3_ n4_ n5_; clear hb hbox hg; have hcz8_0 : w7.cell? ⟨gb811, 0, none⟩ = some (.int .i64 0) := (blk_cell BK811.out 0).trans rfl; have hcz8_1 : w7.cell? ⟨gb811, 1, none⟩ = some (.slice none 0 0) := (blk_cell BK811.out 1).trans rfl; have hfz8_0 := blk_frozen BK811.out 0; have hfz8_1 := blk_frozen BK811.out 1; obtain ⟨Ao9, co9, eo9⟩ := Kd.R_slice HO807.out; subst eo9; obtain ⟨Ao10, co10, eo10⟩ := Kd.R_slice HO810.out; subst eo10) | (go_at_call 50; (with_reducible refine (impl_WalkNodes.calls k t804 _ _ t805 _ _ t808 t812 _ ?side1 ?side2 ?side3 ?side4 A4.out).mono ?_); (case side1 => refine (rR13 (e := 37) (base := w.heap.size) (ok := fun k_ => True) (n := t805.length) (c := co9) ?_).2.2; exact (by (with_reducible repeat (first | apply Kd.R_alloc | apply Kd.R_drewN | apply Kd.R_drew)); exact (Kd.R_mono (Kd.R_far (p := ⟨gb811, 1, none⟩) (Kd.R_far (p := ⟨gb811, 0, none⟩) (Kd.R_types HO807.out BK811.out (by decide)) (fun _ hk => hk.2) (.int .i64 t804)) (fun _ hk => hk.2) (.slice Ao9 t805.length co9)) (fun _ h_ => h_.1)))); (case side2 => exact (rR13 HO807.out).2.1); (case side3 => refine (rR13 (e := 3) (base := w.heap.size) (ok := fun k_ => True) (n := t808.length) (c := co10) ?_).2.2; exact (by (with_reducible repeat (first | apply Kd.R_alloc | apply Kd.R_drewN | apply Kd.R_drew)); exact (Kd.R_mono (Kd.R_far (p := ⟨gb811, 1, none⟩) (Kd.R_far (p := ⟨gb811, 0, none⟩) (Kd.R_types HO810.out BK811.out (by decide)) (fun _ hk => hk.2) (.int .i64 t804)) (fun _ hk => hk.2) (.slice Ao9 t805.length co9)) (fun _ h_ => h_.1)))); (case side4 => exact (rR13 HO810.out).2.1); rintro e w11 ⟨v813, rfl, ho0, hb⟩; have n0_ := Aside0.mk (Kd.R_below (by (with_reducible repeat (first | apply Kd.R_alloc | apply Kd.R_drewN | apply Kd.R_drew)); exact (Kd.R_mono (Kd.R_far (p := ⟨gb811, 1, none⟩) (Kd.R_far (p := ⟨gb811, 0, none⟩) (Kd.R_types HO807.out BK811.out (by decide)) (fun _ hk => hk.2) (.int .i64 t804)) (fun _ hk => hk.2) (.slice Ao9 t805.length co9)) (fun _ h_ => h_.1))) hb); have n1_ := Aside0.mk (Kd.R_elder' (by (with_reducible repeat (first | apply Kd.R_alloc | apply Kd.R_drewN | apply Kd.R_drew)); exact (Kd.R_mono (Kd.R_far (p := ⟨gb811, 1, none⟩) (Kd.R_far (p := ⟨gb811, 0, none⟩) (Kd.R_types HO810.out BK811.out (by decide)) (fun _ hk => hk.2) (.int .i64 t804)) (fun _ hk => hk.2) (.slice Ao9 t805.length co9)) (fun _ h_ => h_.1))) (Kd.R_base ho0) hb); have n2_ := Aside0.mk (Kd.R_lower (Kd.R_new' ho0 (Kd.R_lt (by (with_reducible repeat (first | apply Kd.R_alloc | apply Kd.R_drewN | apply Kd.R_drew)); exact (Kd.R_mono (Kd.R_far (p := ⟨gb811, 1, none⟩) (Kd.R_far (p := ⟨gb811, 0, none⟩) (Kd.R_types HO810.out BK811.out (by decide)) (fun _ hk => hk.2) (.int .i64 t804)) (fun _ hk => hk.2) (.slice Ao9 t805.length co9)) (fun _ h_ => h_.1))))) (below_size (ne_ HB.out))); have n3_ := Aside0.mk (blk_below (g := gb811) (o := .cells #[.int .i64 t804, .slice Ao9 t805.length co9] 29 (0, 0)) (by (with_reducible repeat (first | refine blk_drewN ?_ _ | refine blk_drew ?_ | refine blk_alloc ?_ _)); refine blk_put (cs := #[.int .i64 t804, .slice none 0 0]) ?_ 1 _ rfl; (with_reducible repeat (first | refine blk_drewN ?_ _ | refine blk_drew ?_ | refine blk_alloc ?_ _)); refine blk_put (cs := #[.int .i64 0, .slice none 0 0]) ?_ 0 _ rfl; (with_reducible repeat (first | refine blk_drewN ?_ _ | refine blk_drew ?_ | refine blk_alloc ?_ _)); exact BK811.out) hb); have n4_ := Aside0.mk (below_step (ne_ HB.out) hb); clear HO807; clear HO810; clear BK811; clear HB; have HO807 := n0_; have HO810 := n1_; have HO814 := n2_; have BK811 := n3_; have HB := n4_; clear n0_ n1_ n2_ n3_ n4_; (try clear hb); (try clear hb2); (try clear hk); (try clear hi); (try clear ho0))))
   (try simp only [Act.put, List.setIfInBounds_toArray, List.set_cons_zero, List.set_cons_succ])
   go_cut [28] (fun v28 wc => ∃ (kq : Nat) (x28_4 : Bool), v28 = .bool x28_4 ∧ Aside0 (laws_FnWalkNodes.j0 kq t808 t812 x28_4 t804 t805 = some r) ∧ Aside0 (kq ≤ k) ∧ Aside0 (Kd.R (Kd.int .i64) 3 wc w.heap.size (fun k_ => some k_ ≠ (v813 : Value).ownBlock) (.slice Ao10 t808.length co10) t808) ∧ Aside0 (Kd.R (Kd.int .i64) 3 wc w.heap.size (fun k_ => some k_ ≠ ((.slice Ao10 t808.length co10) : Value).ownBlock) v813 t812) ∧ Aside0 (Kd.R k37 37 wc w.heap.size (fun _ => True) (.slice Ao9 t805.length co9) t805) ∧ Aside0 (wc.heap[gb811]? = some (.cells #[.int .i64 t804, (.slice Ao9 t805.length co9)] 29 (0, 0))) ∧ Aside0 (Below w.heap.size w wc))
   case first =>
    have H := HC5.out
    clear HC5
    replace H := Option.bind_eq_some_iff.mp H
    obtain ⟨t815, A120, H⟩ := H
    replace H : ((laws_wkInts.f k t812 t815).bind fun t818 => (if t818 = true then (laws_FnWalkNodes.j0 k t808 t812 ((t812.length : Int) == 0) t804 t805) else (laws_FnWalkNodes.j0 k t808 t812 true t804 t805))) = some r := H
    have A12 := Aside0.mk A120
    clear A120
    replace H := Option.bind_eq_some_iff.mp H
    obtain ⟨t818, A130, H⟩ := H
    replace H : (if t818 = true then (laws_FnWalkNodes.j0 k t808 t812 ((t812.length : Int) == 0) t804 t805) else (laws_FnWalkNodes.j0 k t808 t812 true t804 t805)) = some r := H
    have A13 := Aside0.mk A130
    clear A130
    by_cases c14 : t818 = true
    ·subst c14
     have H1 : (laws_FnWalkNodes.j0 k t808 t812 ((t812.length : Int) == 0) t804 t805) = some r := by rw [if_pos rfl] at H; exact H
     clear H
     have H := H1
     clear H1
     have H' := Aside0.mk H
     clear H
     have hcz15_0 : w11.cell? ⟨gb811, 0, none⟩ = some (.int .i64 t804) := (blk_cell BK811.out 0).trans rfl
     have hcz15_1 : w11.cell? ⟨gb811, 1, none⟩ = some (.slice Ao9 t805.length co9) := (blk_cell BK811.out 1).trans rfl
     have hfz15_0 := blk_frozen BK811.out 0
     have hfz15_1 := blk_frozen BK811.out 1
     go_wp2_with (first | (go_at_call 51; (with_reducible refine (spec_WalkNodes.calls k t804 _ _ t805 _ _ t808 t815 _ ?side1 ?side2 ?side3 ?side4 A12.out).mono ?_); (case side1 => exact nc_ (rR13 HO807.out).2.2); (case side2 => exact (rR13 HO807.out).2.1); (case side3 => exact nc_ (rR13 HO810.out).2.2); (case side4 => exact (rR13 HO810.out).2.1); rintro e w16 ⟨v816, rfl, ho0, hb⟩; have n0_ := Aside0.mk (Kd.R_below (nr_ HO807.out) hb); have n1_ := Aside0.mk (Kd.R_elder' (nr_ HO810.out) (Kd.R_base ho0) hb); have n2_ := Aside0.mk (Kd.R_elder' (nr_ HO814.out) (Kd.R_base ho0) hb); have n3_ := Aside0.mk (Kd.R_lower (Kd.R_new' (Kd.R_new' ho0 (Kd.R_lt (nr_ HO810.out))) (Kd.R_lt (nr_ HO814.out))) (below_size (ne_ HB.out))); have n4_ := Aside0.mk (blk_below (g := gb811) (o := .cells #[.int .i64 t804, .slice Ao9 t805.length co9] 29 (0, 0)) (nb_ BK811.out) hb); have n5_ := Aside0.mk (below_step (ne_ HB.out) hb); clear HO807; clear HO810; clear HO814; clear BK811; clear HB; have HO807 := n0_; have HO810 := n1_; have HO814 := n2_; have HO817 := n3_; have BK811 := n4_; have HB := n5_; clear n0_ n1_ n2_ n3_ n4_ n5_; (try clear hb); (try clear hb2); (try clear hk); (try clear hi); (try clear ho0); obtain ⟨Ao17, co17, eo17⟩ := Kd.R_slice HO814.out; subst eo17; obtain ⟨Ao18, co18, eo18⟩ := Kd.R_slice HO817.out; subst eo18) | (go_at_call 30; (with_reducible refine (laws_wkInts.calls k _ _ t812 _ _ t815 true _ ?side1 ?side2 ?side3 ?side4 A13.out).mono ?_); (case side1 => exact nc_ (rR13 HO814.out).2.2); (case side2 => exact (rR13 HO814.out).2.1); (case side3 => exact nc_ (rR13 HO817.out).2.2); (case side4 => exact (rR13 HO817.out).2.1); rintro e w' ⟨rfl, ⟨nd, rfl⟩⟩; (try first | exact ⟨rfl, _, World.drewN_drewN _ _ _⟩ | exact ⟨rfl, _, Eq.trans (World.drewN_drewN _ _ _) (congrArg (World.drewN _) (Nat.add_assoc _ _ _))⟩)))
     repeat (go_quiet (first | (go_at_call 51; (with_reducible refine (spec_WalkNodes.calls k t804 _ _ t805 _ _ t808 t815 _ ?side1 ?side2 ?side3 ?side4 A12.out).mono ?_); (case side1 => exact nc_ (rR13 HO807.out).2.2); (case side2 => exact (rR13 HO807.out).2.1); (case side3 => exact nc_ (rR13 HO810.out).2.2); (case side4 => exact (rR13 HO810.out).2.1); rintro e w16 ⟨v816, rfl, ho0, hb⟩; have n0_ := Aside0.mk (Kd.R_below (nr_ HO807.out) hb); have n1_ := Aside0.mk (Kd.R_elder' (nr_ HO810.out) (Kd.R_base ho0) hb); have n2_ := Aside0.mk (Kd.R_elder' (nr_ HO814.out) (Kd.R_base ho0) hb); have n3_ := Aside0.mk (Kd.R_lower (Kd.R_new' (Kd.R_new' ho0 (Kd.R_lt (nr_ HO810.out))) (Kd.R_lt (nr_ HO814.out))) (below_size (ne_ HB.out))); have n4_ := Aside0.mk (blk_below (g := gb811) (o := .cells #[.int .i64 t804, .slice Ao9 t805.length co9] 29 (0, 0)) (nb_ BK811.out) hb); have n5_ := Aside0.mk (below_step (ne_ HB.out) hb); clear HO807; clear HO810; clear HO814; clear BK811; clear HB; have HO807 := n0_; have HO810 := n1_; have HO814 := n2_; have HO817 := n3_; have BK811 := n4_; have HB := n5_; clear n0_ n1_ n2_ n3_ n4_ n5_; (try clear hb); (try clear hb2); (try clear hk); (try clear hi); (try clear ho0); obtain ⟨Ao17, co17, eo17⟩ := Kd.R_slice HO814.out; subst eo17; obtain ⟨Ao18, co18, eo18⟩ := Kd.R_slice HO817.out; subst eo18) | (go_at_call 30; (with_reducible refine (laws_wkInts.calls k _ _ t812 _ _ t815 true _ ?side1 ?side2 ?side3 ?side4 A13.out).mono ?_); (case side1 => exact nc_ (rR13 HO814.out).2.2); (case side2 => exact (rR13 HO814.out).2.1); (case side3 => exact nc_ (rR13 HO817.out).2.2); (case side4 => exact (rR13 HO817.out).2.1); rintro e w' ⟨rfl, ⟨nd, rfl⟩⟩; (try first | exact ⟨rfl, _, World.drewN_drewN _ _ _⟩ | exact ⟨rfl, _, Eq.trans (World.drewN_drewN _ _ _) (congrArg (World.drewN _) (Nat.add_assoc _ _ _))⟩))); try go_wp2_with (first | (go_at_call 51; (with_reducible refine (spec_WalkNodes.calls k t804 _ _ t805 _ _ t808 t815 _ ?side1 ?side2 ?side3 ?side4 A12.out).mono ?_); (case side1 => exact nc_ (rR13 HO807.out).2.2); (case side2 => exact (rR13 HO807.out).2.1); (case side3 => exact nc_ (rR13 HO810.out).2.2); (case side4 => exact (rR13 HO810.out).2.1); rintro e w16 ⟨v816, rfl, ho0, hb⟩; have n0_ := Aside0.mk (Kd.R_below (nr_ HO807.out) hb); have n1_ := Aside0.mk (Kd.R_elder' (nr_ HO810.out) (Kd.R_base ho0) hb); have n2_ := Aside0.mk (Kd.R_elder' (nr_ HO814.out) (Kd.R_base ho0) hb); have n3_ := Aside0.mk (Kd.R_lower (Kd.R_new' (Kd.R_new' ho0 (Kd.R_lt (nr_ HO810.out))) (Kd.R_lt (nr_ HO814.out))) (below_size (ne_ HB.out))); have n4_ := Aside0.mk (blk_below (g := gb811) (o := .cells #[.int .i64 t804, .slice Ao9 t805.length co9] 29 (0, 0)) (nb_ BK811.out) hb); have n5_ := Aside0.mk (below_step (ne_ HB.out) hb); clear HO807; clear HO810; clear HO814; clear BK811; clear HB; have HO807 := n0_; have HO810 := n1_; have HO814 := n2_; have HO817 := n3_; have BK811 := n4_; have HB := n5_; clear n0_ n1_ n2_ n3_ n4_ n5_; (try clear hb); (try clear hb2); (try clear hk); (try clear hi); (try clear ho0); obtain ⟨Ao17, co17, eo17⟩ := Kd.R_slice HO814.out; subst eo17; obtain ⟨Ao18, co18, eo18⟩ := Kd.R_slice HO817.out; subst eo18) | (go_at_call 30; (with_reducible refine (laws_wkInts.calls k _ _ t812 _ _ t815 true _ ?side1 ?side2 ?side3 ?side4 A13.out).mono ?_); (case side1 => exact nc_ (rR13 HO814.out).2.2); (case side2 => exact (rR13 HO814.out).2.1); (case side3 => exact nc_ (rR13 HO817.out).2.2); (case side4 => exact (rR13 HO817.out).2.1); rintro e w' ⟨rfl, ⟨nd, rfl⟩⟩; (try first | exact ⟨rfl, _, World.drewN_drewN _ _ _⟩ | exact ⟨rfl, _, Eq.trans (World.drewN_drewN _ _ _) (congrArg (World.drewN _) (Nat.add_assoc _ _ _))⟩))))
     go_meet
     case rel => exact ⟨_, (((t812.length : Int) == 0)), ns_, H', ⟨by first | omega | exact Nat.le_refl _⟩, ⟨by (with_reducible repeat (first | apply Kd.R_alloc | apply Kd.R_drewN | apply Kd.R_drew)); exact Kd.R_mono HO810.out (fun _ hk => by first | exact hk.1.2 | trivial | simp_all)⟩, ⟨by (with_reducible repeat (first | apply Kd.R_alloc | apply Kd.R_drewN | apply Kd.R_drew)); exact Kd.R_mono HO814.out (fun _ hk => by first | exact hk.1.2 | trivial | simp_all)⟩, ⟨by (with_reducible repeat (first | apply Kd.R_alloc | apply Kd.R_drewN | apply Kd.R_drew)); exact HO807.out⟩, ⟨by (with_reducible repeat (first | refine blk_drewN ?_ _ | refine blk_drew ?_ | refine blk_alloc ?_ _)); exact BK811.out⟩, ⟨by repeat (first | (with_reducible first | exact HB.out | apply below_alloc | apply pw_below_drewN | apply below_drew1 | refine below_set ?_ GE811.out) | exact HB.out)⟩⟩
    ·replace c14 := Bool.eq_false_iff.mpr c14
     subst c14
     have H1 : (laws_FnWalkNodes.j0 k t808 t812 true t804 t805) = some r := by rw [if_neg (show ¬ (false = true) by decide)] at H; exact H
     clear H
     have H := H1
     clear H1
     have H' := Aside0.mk H
     clear H
     have hcz19_0 : w11.cell? ⟨gb811, 0, none⟩ = some (.int .i64 t804) := (blk_cell BK811.out 0).trans rfl
     have hcz19_1 : w11.cell? ⟨gb811, 1, none⟩ = some (.slice Ao9 t805.length co9) := (blk_cell BK811.out 1).trans rfl
     have hfz19_0 := blk_frozen BK811.out 0
     have hfz19_1 := blk_frozen BK811.out 1
     go_wp2_with (first | (go_at_call 51; (with_reducible refine (spec_WalkNodes.calls k t804 _ _ t805 _ _ t808 t815 _ ?side1 ?side2 ?side3 ?side4 A12.out).mono ?_); (case side1 => exact nc_ (rR13 HO807.out).2.2); (case side2 => exact (rR13 HO807.out).2.1); (case side3 => exact nc_ (rR13 HO810.out).2.2); (case side4 => exact (rR13 HO810.out).2.1); rintro e w20 ⟨v816, rfl, ho0, hb⟩; have n0_ := Aside0.mk (Kd.R_below (nr_ HO807.out) hb); have n1_ := Aside0.mk (Kd.R_elder' (nr_ HO810.out) (Kd.R_base ho0) hb); have n2_ := Aside0.mk (Kd.R_elder' (nr_ HO814.out) (Kd.R_base ho0) hb); have n3_ := Aside0.mk (Kd.R_lower (Kd.R_new' (Kd.R_new' ho0 (Kd.R_lt (nr_ HO810.out))) (Kd.R_lt (nr_ HO814.out))) (below_size (ne_ HB.out))); have n4_ := Aside0.mk (blk_below (g := gb811) (o := .cells #[.int .i64 t804, .slice Ao9 t805.length co9] 29 (0, 0)) (nb_ BK811.out) hb); have n5_ := Aside0.mk (below_step (ne_ HB.out) hb); clear HO807; clear HO810; clear HO814; clear BK811; clear HB; have HO807 := n0_; have HO810 := n1_; have HO814 := n2_; have HO817 := n3_; have BK811 := n4_; have HB := n5_; clear n0_ n1_ n2_ n3_ n4_ n5_; (try clear hb); (try clear hb2); (try clear hk); (try clear hi); (try clear ho0); obtain ⟨Ao21, co21, eo21⟩ := Kd.R_slice HO814.out; subst eo21; obtain ⟨Ao22, co22, eo22⟩ := Kd.R_slice HO817.out; subst eo22) | (go_at_call 30; (with_reducible refine (laws_wkInts.calls k _ _ t812 _ _ t815 false _ ?side1 ?side2 ?side3 ?side4 A13.out).mono ?_); (case side1 => exact nc_ (rR13 HO814.out).2.2); (case side2 => exact (rR13 HO814.out).2.1); (case side3 => exact nc_ (rR13 HO817.out).2.2); (case side4 => exact (rR13 HO817.out).2.1); rintro e w' ⟨rfl, ⟨nd, rfl⟩⟩; (try first | exact ⟨rfl, _, World.drewN_drewN _ _ _⟩ | exact ⟨rfl, _, Eq.trans (World.drewN_drewN _ _ _) (congrArg (World.drewN _) (Nat.add_assoc _ _ _))⟩)))
     repeat (go_quiet (first | (go_at_call 51; (with_reducible refine (spec_WalkNodes.calls k t804 _ _ t805 _ _ t808 t815 _ ?side1 ?side2 ?side3 ?side4 A12.out).mono ?_); (case side1 => exact nc_ (rR13 HO807.out).2.2); (case side2 => exact (rR13 HO807.out).2.1); (case side3 => exact nc_ (rR13 HO810.out).2.2); (case side4 => exact (rR13 HO810.out).2.1); rintro e w20 ⟨v816, rfl, ho0, hb⟩; have n0_ := Aside0.mk (Kd.R_below (nr_ HO807.out) hb); have n1_ := Aside0.mk (Kd.R_elder' (nr_ HO810.out) (Kd.R_base ho0) hb); have n2_ := Aside0.mk (Kd.R_elder' (nr_ HO814.out) (Kd.R_base ho0) hb); have n3_ := Aside0.mk (Kd.R_lower (Kd.R_new' (Kd.R_new' ho0 (Kd.R_lt (nr_ HO810.out))) (Kd.R_lt (nr_ HO814.out))) (below_size (ne_ HB.out))); have n4_ := Aside0.mk (blk_below (g := gb811) (o := .cells #[.int .i64 t804, .slice Ao9 t805.length co9] 29 (0, 0)) (nb_ BK811.out) hb); have n5_ := Aside0.mk (below_step (ne_ HB.out) hb); clear HO807; clear HO810; clear HO814; clear BK811; clear HB; have HO807 := n0_; have HO810 := n1_; have HO814 := n2_; have HO817 := n3_; have BK811 := n4_; have HB := n5_; clear n0_ n1_ n2_ n3_ n4_ n5_; (try clear hb); (try clear hb2); (try clear hk); (try clear hi); (try clear ho0); obtain ⟨Ao21, co21, eo21⟩ := Kd.R_slice HO814.out; subst eo21; obtain ⟨Ao22, co22, eo22⟩ := Kd.R_slice HO817.out; subst eo22) | (go_at_call 30; (with_reducible refine (laws_wkInts.calls k _ _ t812 _ _ t815 false _ ?side1 ?side2 ?side3 ?side4 A13.out).mono ?_); (case side1 => exact nc_ (rR13 HO814.out).2.2); (case side2 => exact (rR13 HO814.out).2.1); (case side3 => exact nc_ (rR13 HO817.out).2.2); (case side4 => exact (rR13 HO817.out).2.1); rintro e w' ⟨rfl, ⟨nd, rfl⟩⟩; (try first | exact ⟨rfl, _, World.drewN_drewN _ _ _⟩ | exact ⟨rfl, _, Eq.trans (World.drewN_drewN _ _ _) (congrArg (World.drewN _) (Nat.add_assoc _ _ _))⟩))); try go_wp2_with (first | (go_at_call 51; (with_reducible refine (spec_WalkNodes.calls k t804 _ _ t805 _ _ t808 t815 _ ?side1 ?side2 ?side3 ?side4 A12.out).mono ?_); (case side1 => exact nc_ (rR13 HO807.out).2.2); (case side2 => exact (rR13 HO807.out).2.1); (case side3 => exact nc_ (rR13 HO810.out).2.2); (case side4 => exact (rR13 HO810.out).2.1); rintro e w20 ⟨v816, rfl, ho0, hb⟩; have n0_ := Aside0.mk (Kd.R_below (nr_ HO807.out) hb); have n1_ := Aside0.mk (Kd.R_elder' (nr_ HO810.out) (Kd.R_base ho0) hb); have n2_ := Aside0.mk (Kd.R_elder' (nr_ HO814.out) (Kd.R_base ho0) hb); have n3_ := Aside0.mk (Kd.R_lower (Kd.R_new' (Kd.R_new' ho0 (Kd.R_lt (nr_ HO810.out))) (Kd.R_lt (nr_ HO814.out))) (below_size (ne_ HB.out))); have n4_ := Aside0.mk (blk_below (g := gb811) (o := .cells #[.int .i64 t804, .slice Ao9 t805.length co9] 29 (0, 0)) (nb_ BK811.out) hb); have n5_ := Aside0.mk (below_step (ne_ HB.out) hb); clear HO807; clear HO810; clear HO814; clear BK811; clear HB; have HO807 := n0_; have HO810 := n1_; have HO814 := n2_; have HO817 := n3_; have BK811 := n4_; have HB := n5_; clear n0_ n1_ n2_ n3_ n4_ n5_; (try clear hb); (try clear hb2); (try clear hk); (try clear hi); (try clear ho0); obtain ⟨Ao21, co21, eo21⟩ := Kd.R_slice HO814.out; subst eo21; obtain ⟨Ao22, co22, eo22⟩ := Kd.R_slice HO817.out; subst eo22) | (go_at_call 30; (with_reducible refine (laws_wkInts.calls k _ _ t812 _ _ t815 false _ ?side1 ?side2 ?side3 ?side4 A13.out).mono ?_); (case side1 => exact nc_ (rR13 HO814.out).2.2); (case side2 => exact (rR13 HO814.out).2.1); (case side3 => exact nc_ (rR13 HO817.out).2.2); (case side4 => exact (rR13 HO817.out).2.1); rintro e w' ⟨rfl, ⟨nd, rfl⟩⟩; (try first | exact ⟨rfl, _, World.drewN_drewN _ _ _⟩ | exact ⟨rfl, _, Eq.trans (World.drewN_drewN _ _ _) (congrArg (World.drewN _) (Nat.add_assoc _ _ _))⟩))))
     go_meet
     case rel => exact ⟨_, (true), ns_, H', ⟨by first | omega | exact Nat.le_refl _⟩, ⟨by (with_reducible repeat (first | apply Kd.R_alloc | apply Kd.R_drewN | apply Kd.R_drew)); exact Kd.R_mono HO810.out (fun _ hk => by first | exact hk.1.2 | trivial | simp_all)⟩, ⟨by (with_reducible repeat (first | apply Kd.R_alloc | apply Kd.R_drewN | apply Kd.R_drew)); exact Kd.R_mono HO814.out (fun _ hk => by first | exact hk.1.2 | trivial | simp_all)⟩, ⟨by (with_reducible repeat (first | apply Kd.R_alloc | apply Kd.R_drewN | apply Kd.R_drew)); exact HO807.out⟩, ⟨by (with_reducible repeat (first | refine blk_drewN ?_ _ | refine blk_drew ?_ | refine blk_alloc ?_ _)); exact BK811.out⟩, ⟨by repeat (first | (with_reducible first | exact HB.out | apply below_alloc | apply pw_below_drewN | apply below_drew1 | refine below_set ?_ GE811.out) | exact HB.out)⟩⟩
   case rest =>
    clear HC5
    try clear c1
    try clear c2
    try clear c2b0
    try clear c2b1
    try clear p2
    try clear c13
    try clear c14
    try clear hcz15_0
    try clear hcz15_1
    try clear hcz19_0
    try clear hcz19_1
    try clear hcz8_0
    try clear hcz8_1
    try clear hfz15_0
    try clear hfz15_1
    try clear hfz19_0
    try clear hfz19_1
    try clear hfz8_0
    try clear hfz8_1
    obtain ⟨kq, x28_4, rfl, HA, HJ4, HO_4, HO_5, HO_812001, BK811, HB⟩ := hcut
    cases kq with
    | zero => exact absurd HA.out (by simp [laws_FnWalkNodes.j0])
    | succ kj4 =>
     have H := HA.out
     clear HA
     simp only [laws_FnWalkNodes.j0] at H
     by_cases c23 : x28_4 = true
     ·subst c23
      have H1 : ((spec_WalkNodes.f kj4 t804 t805 t808).bind fun t819 => ((laws_wkInts.f kj4 t812 t819).bind fun t822 => (some t822))) = some r := by rw [if_pos rfl] at H; exact H
      clear H
      have H := H1
      clear H1
      replace H := Option.bind_eq_some_iff.mp H
      obtain ⟨t819, A240, H⟩ := H
      replace H : ((laws_wkInts.f kj4 t812 t819).bind fun t822 => (some t822)) = some r := H
      have A24 := Aside0.mk A240
      clear A240
      replace H := Option.bind_eq_some_iff.mp H
      obtain ⟨t822, A250, H⟩ := H
      replace H : (some t822) = some r := H
      have A25 := Aside0.mk A250
      clear A250
      obtain rfl := Option.some.inj H
      have hcz26_0 : wc.cell? ⟨gb811, 0, none⟩ = some (.int .i64 t804) := (blk_cell BK811.out 0).trans rfl
      have hcz26_1 : wc.cell? ⟨gb811, 1, none⟩ = some (.slice Ao9 t805.length co9) := (blk_cell BK811.out 1).trans rfl
      have hfz26_0 := blk_frozen BK811.out 0
      have hfz26_1 := blk_frozen BK811.out 1
      go_wp2_with (first | (go_at_call 51; (with_reducible refine (spec_WalkNodes.calls kj4 t804 _ _ t805 _ _ t808 t819 _ ?side1 ?side2 ?side3 ?side4 A24.out).mono ?_); (case side1 => exact nc_ (rR13 HO_812001.out).2.2); (case side2 => exact (rR13 HO_812001.out).2.1); (case side3 => exact nc_ (rR13 HO_4.out).2.2); (case side4 => exact (rR13 HO_4.out).2.1); rintro e w27 ⟨v820, rfl, ho0, hb⟩; have n0_ := Aside0.mk (Kd.R_elder' (nr_ HO_4.out) (Kd.R_base ho0) hb); have n1_ := Aside0.mk (Kd.R_elder' (nr_ HO_5.out) (Kd.R_base ho0) hb); have n2_ := Aside0.mk (Kd.R_below (nr_ HO_812001.out) hb); have n3_ := Aside0.mk (Kd.R_lower (Kd.R_new' (Kd.R_new' ho0 (Kd.R_lt (nr_ HO_4.out))) (Kd.R_lt (nr_ HO_5.out))) (below_size (ne_ HB.out))); have n4_ := Aside0.mk (blk_below (g := gb811) (o := .cells #[.int .i64 t804, .slice Ao9 t805.length co9] 29 (0, 0)) (nb_ BK811.out) hb); have n5_ := Aside0.mk (below_step (ne_ HB.out) hb); clear HO_4; clear HO_5; clear HO_812001; clear BK811; clear HB; have HO_4 := n0_; have HO_5 := n1_; have HO_812001 := n2_; have HO821 := n3_; have BK811 := n4_; have HB := n5_; clear n0_ n1_ n2_ n3_ n4_ n5_; (try clear hb); (try clear hb2); (try clear hk); (try clear hi); (try clear ho0); obtain ⟨Ao28, co28, eo28⟩ := Kd.R_slice HO_5.out; subst eo28; obtain ⟨Ao29, co29, eo29⟩ := Kd.R_slice HO821.out; subst eo29) | (go_at_call 30; (with_reducible refine (laws_wkInts.calls kj4 _ _ t812 _ _ t819 t822 _ ?side1 ?side2 ?side3 ?side4 A25.out).mono ?_); (case side1 => exact nc_ (rR13 HO_5.out).2.2); (case side2 => exact (rR13 HO_5.out).2.1); (case side3 => exact nc_ (rR13 HO821.out).2.2); (case side4 => exact (rR13 HO821.out).2.1); rintro e w' ⟨rfl, ⟨nd, rfl⟩⟩; (try first | exact ⟨rfl, _, World.drewN_drewN _ _ _⟩ | exact ⟨rfl, _, Eq.trans (World.drewN_drewN _ _ _) (congrArg (World.drewN _) (Nat.add_assoc _ _ _))⟩)))
      repeat (go_quiet (first | (go_at_call 51; (with_reducible refine (spec_WalkNodes.calls kj4 t804 _ _ t805 _ _ t808 t819 _ ?side1 ?side2 ?side3 ?side4 A24.out).mono ?_); (case side1 => exact nc_ (rR13 HO_812001.out).2.2); (case side2 => exact (rR13 HO_812001.out).2.1); (case side3 => exact nc_ (rR13 HO_4.out).2.2); (case side4 => exact (rR13 HO_4.out).2.1); rintro e w27 ⟨v820, rfl, ho0, hb⟩; have n0_ := Aside0.mk (Kd.R_elder' (nr_ HO_4.out) (Kd.R_base ho0) hb); have n1_ := Aside0.mk (Kd.R_elder' (nr_ HO_5.out) (Kd.R_base ho0) hb); have n2_ := Aside0.mk (Kd.R_below (nr_ HO_812001.out) hb); have n3_ := Aside0.mk (Kd.R_lower (Kd.R_new' (Kd.R_new' ho0 (Kd.R_lt (nr_ HO_4.out))) (Kd.R_lt (nr_ HO_5.out))) (below_size (ne_ HB.out))); have n4_ := Aside0.mk (blk_below (g := gb811) (o := .cells #[.int .i64 t804, .slice Ao9 t805.length co9] 29 (0, 0)) (nb_ BK811.out) hb); have n5_ := Aside0.mk (below_step (ne_ HB.out) hb); clear HO_4; clear HO_5; clear HO_812001; clear BK811; clear HB; have HO_4 := n0_; have HO_5 := n1_; have HO_812001 := n2_; have HO821 := n3_; have BK811 := n4_; have HB := n5_; clear n0_ n1_ n2_ n3_ n4_ n5_; (try clear hb); (try clear hb2); (try clear hk); (try clear hi); (try clear ho0); obtain ⟨Ao28, co28, eo28⟩ := Kd.R_slice HO_5.out; subst eo28; obtain ⟨Ao29, co29, eo29⟩ := Kd.R_slice HO821.out; subst eo29) | (go_at_call 30; (with_reducible refine (laws_wkInts.calls kj4 _ _ t812 _ _ t819 t822 _ ?side1 ?side2 ?side3 ?side4 A25.out).mono ?_); (case side1 => exact nc_ (rR13 HO_5.out).2.2); (case side2 => exact (rR13 HO_5.out).2.1); (case side3 => exact nc_ (rR13 HO821.out).2.2); (case side4 => exact (rR13 HO821.out).2.1); rintro e w' ⟨rfl, ⟨nd, rfl⟩⟩; (try first | exact ⟨rfl, _, World.drewN_drewN _ _ _⟩ | exact ⟨rfl, _, Eq.trans (World.drewN_drewN _ _ _) (congrArg (World.drewN _) (Nat.add_assoc _ _ _))⟩))); try go_wp2_with (first | (go_at_call 51; (with_reducible refine (spec_WalkNodes.calls kj4 t804 _ _ t805 _ _ t808 t819 _ ?side1 ?side2 ?side3 ?side4 A24.out).mono ?_); (case side1 => exact nc_ (rR13 HO_812001.out).2.2); (case side2 => exact (rR13 HO_812001.out).2.1); (case side3 => exact nc_ (rR13 HO_4.out).2.2); (case side4 => exact (rR13 HO_4.out).2.1); rintro e w27 ⟨v820, rfl, ho0, hb⟩; have n0_ := Aside0.mk (Kd.R_elder' (nr_ HO_4.out) (Kd.R_base ho0) hb); have n1_ := Aside0.mk (Kd.R_elder' (nr_ HO_5.out) (Kd.R_base ho0) hb); have n2_ := Aside0.mk (Kd.R_below (nr_ HO_812001.out) hb); have n3_ := Aside0.mk (Kd.R_lower (Kd.R_new' (Kd.R_new' ho0 (Kd.R_lt (nr_ HO_4.out))) (Kd.R_lt (nr_ HO_5.out))) (below_size (ne_ HB.out))); have n4_ := Aside0.mk (blk_below (g := gb811) (o := .cells #[.int .i64 t804, .slice Ao9 t805.length co9] 29 (0, 0)) (nb_ BK811.out) hb); have n5_ := Aside0.mk (below_step (ne_ HB.out) hb); clear HO_4; clear HO_5; clear HO_812001; clear BK811; clear HB; have HO_4 := n0_; have HO_5 := n1_; have HO_812001 := n2_; have HO821 := n3_; have BK811 := n4_; have HB := n5_; clear n0_ n1_ n2_ n3_ n4_ n5_; (try clear hb); (try clear hb2); (try clear hk); (try clear hi); (try clear ho0); obtain ⟨Ao28, co28, eo28⟩ := Kd.R_slice HO_5.out; subst eo28; obtain ⟨Ao29, co29, eo29⟩ := Kd.R_slice HO821.out; subst eo29) | (go_at_call 30; (with_reducible refine (laws_wkInts.calls kj4 _ _ t812 _ _ t819 t822 _ ?side1 ?side2 ?side3 ?side4 A25.out).mono ?_); (case side1 => exact nc_ (rR13 HO_5.out).2.2); (case side2 => exact (rR13 HO_5.out).2.1); (case side3 => exact nc_ (rR13 HO821.out).2.2); (case side4 => exact (rR13 HO821.out).2.1); rintro e w' ⟨rfl, ⟨nd, rfl⟩⟩; (try first | exact ⟨rfl, _, World.drewN_drewN _ _ _⟩ | exact ⟨rfl, _, Eq.trans (World.drewN_drewN _ _ _) (congrArg (World.drewN _) (Nat.add_assoc _ _ _))⟩))))
      go_ret
      exact ⟨by first | rfl | (simp [errW_none, errW_some] <;> rfl) | (simp [*, errW_none, errW_some] <;> rfl), by repeat (first | (with_reducible first | exact HB.out | apply below_alloc | apply pw_below_drewN | apply below_drew1 | refine below_set ?_ GE811.out) | exact HB.out)⟩
     ·replace c23 := Bool.eq_false_iff.mpr c23
      subst c23
      have H1 : (laws_FnWalkNodes.l0 kj4 t808 t812 0 t804 t805) = some r := by rw [if_neg (show ¬ (false = true) by decide)] at H; exact H
      clear H
      have H := H1
      clear H1
      have H' := Aside0.mk H
      clear H
      go_wp2
      repeat (go_quiet (fail); try go_wp2)
      go_loopg [6] kj4 (fun kq v6 w' => ∃ (x6_2 : Int), v6 = .int .i64 x6_2 ∧ Aside0 (laws_FnWalkNodes.l0 kq t808 t812 x6_2 t804 t805 = some r) ∧ Aside0 (kq ≤ kj4) ∧ Aside0 (Kd.R (Kd.int .i64) 3 w' w.heap.size (fun k_ => some k_ ≠ (v813 : Value).ownBlock) (.slice Ao10 t808.length co10) t808) ∧ Aside0 (Kd.R (Kd.int .i64) 3 w' w.heap.size (fun k_ => some k_ ≠ ((.slice Ao10 t808.length co10) : Value).ownBlock) v813 t812) ∧ Aside0 (Kd.R k37 37 w' w.heap.size (fun _ => True) (.slice Ao9 t805.length co9) t805) ∧ Aside0 (w'.heap[gb811]? = some (.cells #[.int .i64 t804, (.slice Ao9 t805.length co9)] 29 (0, 0))) ∧ Aside0 (Below w.heap.size w w'))
      case atStart => exact ⟨(0), ns_, H', ⟨Nat.le_refl _⟩, ⟨by (with_reducible repeat (first | apply Kd.R_alloc | apply Kd.R_drewN | apply Kd.R_drew)); exact HO_4.out⟩, ⟨by (with_reducible repeat (first | apply Kd.R_alloc | apply Kd.R_drewN | apply Kd.R_drew)); exact HO_5.out⟩, ⟨by (with_reducible repeat (first | apply Kd.R_alloc | apply Kd.R_drewN | apply Kd.R_drew)); exact HO_812001.out⟩, ⟨by (with_reducible repeat (first | refine blk_drewN ?_ _ | refine blk_drew ?_ | refine blk_alloc ?_ _)); exact BK811.out⟩, ⟨by repeat (first | (with_reducible first | exact HB.out | apply below_alloc | apply pw_below_drewN | apply below_drew1 | refine below_set ?_ GE811.out) | exact HB.out)⟩⟩
      case round =>
       clear H'
       try clear c1
       try clear c2
       try clear c2b0
       try clear c2b1
       try clear p2
       try clear c13
       try clear c14
       try clear c23
       try clear hcz15_0
       try clear hcz15_1
       try clear hcz19_0
       try clear hcz19_1
       try clear hcz26_0
       try clear hcz26_1
       try clear hcz8_0
       try clear hcz8_1
       try clear hfz15_0
       try clear hfz15_1
       try clear hfz19_0
       try clear hfz19_1
       try clear hfz26_0
       try clear hfz26_1
       try clear hfz8_0
       try clear hfz8_1
       try clear p2
       obtain ⟨x6_2, rfl, HA, HK2, HO_4, HO_5, HO_812001, BK811, HB⟩ := hrel
       cases gk with
       | zero => exact absurd HA.out (by simp [laws_FnWalkNodes.l0])
       | succ k2 =>
        have H := HA.out
        clear HA
        simp only [laws_FnWalkNodes.l0] at H
        by_cases c30 : x6_2 < (t808.length : Int)
        ·rw [if_pos c30] at H
         have c30b0 : decide (x6_2 < (t808.length : Int)) = true := decide_eq_true c30
         clear c30
         by_cases c31 : 0 ≤ x6_2
         ·rw [if_pos c31] at H
          have c31b0 : decide (0 ≤ x6_2) = true := decide_eq_true c31
          clear c31
          by_cases c32 : 0 ≤ (rd t808 x6_2)
          ·rw [if_pos c32] at H
           have c32b0 : decide (0 ≤ (rd t808 x6_2)) = true := decide_eq_true c32
           clear c32
           by_cases c33 : (rd t808 x6_2) < (t805.length : Int)
           ·rw [if_pos c33] at H
            have c33b0 : decide ((rd t808 x6_2) < (t805.length : Int)) = true := decide_eq_true c33
            clear c33
            by_cases c34 : x6_2 < (t812.length : Int)
            ·rw [if_pos c34] at H
             have c34b0 : decide (x6_2 < (t812.length : Int)) = true := decide_eq_true c34
             clear c34
             by_cases c35 : ((rd_T37 t805 (rd t808 x6_2)).f0) = (rd t812 x6_2)
             ·rw [if_pos c35] at H
              have c35b0 : (((rd_T37 t805 (rd t808 x6_2)).f0) == (rd t812 x6_2)) = true := beq_iff_eq.mpr c35
              have c35b1 : (((rd_T37 t805 (rd t808 x6_2)).f0) != (rd t812 x6_2)) = false := bne_eq_false_iff_eq.mpr c35
              clear c35
              obtain ⟨ji36, hji36⟩ : ∃ j_ : Int, (wrap64 (x6_2 + 1)) = j_ := ⟨_, rfl⟩
              replace H : (if 0 ≤ (ji36) then (if (ji36) < (t812.length : Int) then (if ((rd_T37 t805 (rd t808 x6_2)).f1) = (rd t812 (ji36)) then (laws_FnWalkNodes.l0 k2 t808 t812 ji36 t804 t805) else (some false)) else (none)) else (none)) = some r := by first | (rw [hji36] at H; exact H) | (simp only [hji36] at H ⊢; exact H)
              have hji36w : (IntKind.i64.wrap (x6_2 + 1)) = ji36 := (i64_w _).trans hji36
              by_cases c37 : 0 ≤ (ji36)
              ·rw [if_pos c37] at H
               have c37b0 : decide (0 ≤ (ji36)) = true := decide_eq_true c37
               clear c37
               by_cases c38 : (ji36) < (t812.length : Int)
               ·rw [if_pos c38] at H
                have c38b0 : decide ((ji36) < (t812.length : Int)) = true := decide_eq_true c38
                clear c38
                by_cases c39 : ((rd_T37 t805 (rd t808 x6_2)).f1) = (rd t812 (ji36))
                ·rw [if_pos c39] at H
                 have c39b0 : (((rd_T37 t805 (rd t808 x6_2)).f1) == (rd t812 (ji36))) = true := beq_iff_eq.mpr c39
                 have c39b1 : (((rd_T37 t805 (rd t808 x6_2)).f1) != (rd t812 (ji36))) = false := bne_eq_false_iff_eq.mpr c39
                 clear c39
                 have H' := Aside0.mk H
                 clear H
                 have hcz40_0 : wr.cell? ⟨gb811, 0, none⟩ = some (.int .i64 t804) := (blk_cell BK811.out 0).trans rfl
                 have hcz40_1 : wr.cell? ⟨gb811, 1, none⟩ = some (.slice Ao9 t805.length co9) := (blk_cell BK811.out 1).trans rfl
                 have hfz40_0 := blk_frozen BK811.out 0
                 have hfz40_1 := blk_frozen BK811.out 1
                 have p823 : 0 ≤ (x6_2 : Int) := of_decide_eq_true nx_
                 have q823 : x6_2 < (t808.length : Int) := of_decide_eq_true nx_
                 obtain ⟨ad823, e823, hx823_0⟩ := Kd.at_int (rR13 HO_4.out).2.2 x6_2 p823 q823
                 cases e823
                 replace p823 := eq_true p823
                 replace q823 := eq_true q823
                 have p824 : 0 ≤ ((rd t808 x6_2) : Int) := of_decide_eq_true nx_
                 have q824 : (rd t808 x6_2) < (t805.length : Int) := of_decide_eq_true nx_
                 obtain ⟨ad824, e824, hx824_0, hx824_1, hx824_2, hx824_3, hx824_4⟩ := at_T37 (rR13 HO_812001.out).2.2 (rd t808 x6_2) p824 q824
                 cases e824
                 replace p824 := eq_true p824
                 replace q824 := eq_true q824
                 obtain ⟨Ao41, co41, eo41⟩ := Kd.R_slice HO_5.out
                 subst eo41
                 have p825 : 0 ≤ (x6_2 : Int) := of_decide_eq_true nx_
                 have q825 : x6_2 < (t812.length : Int) := of_decide_eq_true nx_
                 obtain ⟨ad825, e825, hx825_0⟩ := Kd.at_int (rR13 HO_5.out).2.2 x6_2 p825 q825
                 cases e825
                 replace p825 := eq_true p825
                 replace q825 := eq_true q825
                 have p826 : 0 ≤ (x6_2 : Int) := of_decide_eq_true nx_
                 have q826 : x6_2 < (t808.length : Int) := of_decide_eq_true nx_
                 obtain ⟨ad826, e826, hx826_0⟩ := Kd.at_int (rR13 HO_4.out).2.2 x6_2 p826 q826
                 obtain rfl : ad823 = ad826 := (by injection e826)
                 replace p826 := eq_true p826
                 replace q826 := eq_true q826
                 have p827 : 0 ≤ ((rd t808 x6_2) : Int) := of_decide_eq_true nx_
                 have q827 : (rd t808 x6_2) < (t805.length : Int) := of_decide_eq_true nx_
                 obtain ⟨ad827, e827, hx827_0, hx827_1, hx827_2, hx827_3, hx827_4⟩ := at_T37 (rR13 HO_812001.out).2.2 (rd t808 x6_2) p827 q827
                 obtain rfl : ad824 = ad827 := (by injection e827)
                 replace p827 := eq_true p827
                 replace q827 := eq_true q827
                 have p828 : 0 ≤ ((ji36) : Int) := of_decide_eq_true nx_
                 have q828 : (ji36) < (t812.length : Int) := of_decide_eq_true nx_
                 obtain ⟨ad828, e828, hx828_0⟩ := Kd.at_int (rR13 HO_5.out).2.2 (ji36) p828 q828
                 obtain rfl : ad825 = ad828 := (by injection e828)
                 replace p828 := eq_true p828
                 replace q828 := eq_true q828
                 go_wp2
                 repeat (go_quiet (fail); try go_wp2)
                 go_roundg k2
                 case measure => have := HJ4.out; have := HK2.out; omega
                 case rel => exact ⟨(ji36), (by first | rfl | (simp; done) | (simp only [← hji36] <;> (first | rfl | simp)) | (simp [*]; done) | (simp [*]; exact Option.some.inj (Eq.trans (Eq.symm (Aside0.out (by assumption))) (Aside0.out (by assumption))))), H', ⟨by have := HJ4.out; have := HK2.out; omega⟩, ⟨by (with_reducible repeat (first | apply Kd.R_alloc | apply Kd.R_drewN | apply Kd.R_drew)); exact HO_4.out⟩, ⟨by (with_reducible repeat (first | apply Kd.R_alloc | apply Kd.R_drewN | apply Kd.R_drew)); exact HO_5.out⟩, ⟨by (with_reducible repeat (first | apply Kd.R_alloc | apply Kd.R_drewN | apply Kd.R_drew)); exact HO_812001.out⟩, ⟨by (with_reducible repeat (first | refine blk_drewN ?_ _ | refine blk_drew ?_ | refine blk_alloc ?_ _)); exact BK811.out⟩, ⟨by repeat (first | (with_reducible first | exact HB.out | apply below_alloc | apply pw_below_drewN | apply below_drew1 | refine below_set ?_ GE811.out) | exact HB.out)⟩⟩
                ·rw [if_neg c39] at H
                 have c39b0 : (((rd_T37 t805 (rd t808 x6_2)).f1) == (rd t812 (ji36))) = false := beq_eq_false_iff_ne.mpr c39
                 have c39b1 : (((rd_T37 t805 (rd t808 x6_2)).f1) != (rd t812 (ji36))) = true := bne_iff_ne.mpr c39
                 obtain rfl := Option.some.inj H
                 have hcz42_0 : wr.cell? ⟨gb811, 0, none⟩ = some (.int .i64 t804) := (blk_cell BK811.out 0).trans rfl
                 have hcz42_1 : wr.cell? ⟨gb811, 1, none⟩ = some (.slice Ao9 t805.length co9) := (blk_cell BK811.out 1).trans rfl
                 have hfz42_0 := blk_frozen BK811.out 0
                 have hfz42_1 := blk_frozen BK811.out 1
                 have p823 : 0 ≤ (x6_2 : Int) := of_decide_eq_true nx_
                 have q823 : x6_2 < (t808.length : Int) := of_decide_eq_true nx_
                 obtain ⟨ad823, e823, hx823_0⟩ := Kd.at_int (rR13 HO_4.out).2.2 x6_2 p823 q823
                 cases e823
                 replace p823 := eq_true p823
                 replace q823 := eq_true q823
                 have p824 : 0 ≤ ((rd t808 x6_2) : Int) := of_decide_eq_true nx_
                 have q824 : (rd t808 x6_2) < (t805.length : Int) := of_decide_eq_true nx_
                 obtain ⟨ad824, e824, hx824_0, hx824_1, hx824_2, hx824_3, hx824_4⟩ := at_T37 (rR13 HO_812001.out).2.2 (rd t808 x6_2) p824 q824
                 cases e824
                 replace p824 := eq_true p824
                 replace q824 := eq_true q824
                 obtain ⟨Ao43, co43, eo43⟩ := Kd.R_slice HO_5.out
                 subst eo43
                 have p825 : 0 ≤ (x6_2 : Int) := of_decide_eq_true nx_
                 have q825 : x6_2 < (t812.length : Int) := of_decide_eq_true nx_
                 obtain ⟨ad825, e825, hx825_0⟩ := Kd.at_int (rR13 HO_5.out).2.2 x6_2 p825 q825
                 cases e825
                 replace p825 := eq_true p825
                 replace q825 := eq_true q825
                 have p826 : 0 ≤ (x6_2 : Int) := of_decide_eq_true nx_
                 have q826 : x6_2 < (t808.length : Int) := of_decide_eq_true nx_
                 obtain ⟨ad826, e826, hx826_0⟩ := Kd.at_int (rR13 HO_4.out).2.2 x6_2 p826 q826
                 obtain rfl : ad823 = ad826 := (by injection e826)
                 replace p826 := eq_true p826
                 replace q826 := eq_true q826
                 have p827 : 0 ≤ ((rd t808 x6_2) : Int) := of_decide_eq_true nx_
                 have q827 : (rd t808 x6_2) < (t805.length : Int) := of_decide_eq_true nx_
                 obtain ⟨ad827, e827, hx827_0, hx827_1, hx827_2, hx827_3, hx827_4⟩ := at_T37 (rR13 HO_812001.out).2.2 (rd t808 x6_2) p827 q827
                 obtain rfl : ad824 = ad827 := (by injection e827)
                 replace p827 := eq_true p827
                 replace q827 := eq_true q827
                 have p828 : 0 ≤ ((ji36) : Int) := of_decide_eq_true nx_
                 have q828 : (ji36) < (t812.length : Int) := of_decide_eq_true nx_
                 obtain ⟨ad828, e828, hx828_0⟩ := Kd.at_int (rR13 HO_5.out).2.2 (ji36) p828 q828
                 obtain rfl : ad825 = ad828 := (by injection e828)
                 replace p828 := eq_true p828
                 replace q828 := eq_true q828
                 go_wp2
                 repeat (go_quiet (fail); try go_wp2)
                 go_ret
                 exact ⟨by first | rfl | (simp [errW_none, errW_some] <;> rfl) | (simp only [← hji36]; first | rfl | (simp [errW_none, errW_some] <;> rfl)) | (simp [*, errW_none, errW_some] <;> rfl), by repeat (first | (with_reducible first | exact HB.out | apply below_alloc | apply pw_below_drewN | apply below_drew1 | refine below_set ?_ GE811.out) | exact HB.out)⟩
               ·rw [if_neg c38] at H
                exact absurd H (by simp)
              ·rw [if_neg c37] at H
               exact absurd H (by simp)
             ·rw [if_neg c35] at H
              have c35b0 : (((rd_T37 t805 (rd t808 x6_2)).f0) == (rd t812 x6_2)) = false := beq_eq_false_iff_ne.mpr c35
              have c35b1 : (((rd_T37 t805 (rd t808 x6_2)).f0) != (rd t812 x6_2)) = true := bne_iff_ne.mpr c35
              obtain rfl := Option.some.inj H
              have hcz44_0 : wr.cell? ⟨gb811, 0, none⟩ = some (.int .i64 t804) := (blk_cell BK811.out 0).trans rfl
              have hcz44_1 : wr.cell? ⟨gb811, 1, none⟩ = some (.slice Ao9 t805.length co9) := (blk_cell BK811.out 1).trans rfl
              have hfz44_0 := blk_frozen BK811.out 0
              have hfz44_1 := blk_frozen BK811.out 1
              have p823 : 0 ≤ (x6_2 : Int) := of_decide_eq_true nx_
              have q823 : x6_2 < (t808.length : Int) := of_decide_eq_true nx_
              obtain ⟨ad823, e823, hx823_0⟩ := Kd.at_int (rR13 HO_4.out).2.2 x6_2 p823 q823
              cases e823
              replace p823 := eq_true p823
              replace q823 := eq_true q823
              have p824 : 0 ≤ ((rd t808 x6_2) : Int) := of_decide_eq_true nx_
              have q824 : (rd t808 x6_2) < (t805.length : Int) := of_decide_eq_true nx_
              obtain ⟨ad824, e824, hx824_0, hx824_1, hx824_2, hx824_3, hx824_4⟩ := at_T37 (rR13 HO_812001.out).2.2 (rd t808 x6_2) p824 q824
              cases e824
              replace p824 := eq_true p824
              replace q824 := eq_true q824
              obtain ⟨Ao45, co45, eo45⟩ := Kd.R_slice HO_5.out
              subst eo45
              have p825 : 0 ≤ (x6_2 : Int) := of_decide_eq_true nx_
              have q825 : x6_2 < (t812.length : Int) := of_decide_eq_true nx_
              obtain ⟨ad825, e825, hx825_0⟩ := Kd.at_int (rR13 HO_5.out).2.2 x6_2 p825 q825
              cases e825
              replace p825 := eq_true p825
              replace q825 := eq_true q825
              go_wp2
              repeat (go_quiet (fail); try go_wp2)
              go_ret
              exact ⟨by first | rfl | (simp [errW_none, errW_some] <;> rfl) | (simp [*, errW_none, errW_some] <;> rfl), by repeat (first | (with_reducible first | exact HB.out | apply below_alloc | apply pw_below_drewN | apply below_drew1 | refine below_set ?_ GE811.out) | exact HB.out)⟩
            ·rw [if_neg c34] at H
             exact absurd H (by simp)
           ·rw [if_neg c33] at H
            exact absurd H (by simp)
          ·rw [if_neg c32] at H
           exact absurd H (by simp)
         ·rw [if_neg c31] at H
          exact absurd H (by simp)
        ·rw [if_neg c30] at H
         have c30b0 : decide (x6_2 < (t808.length : Int)) = false := decide_eq_false c30
         clear c30
         obtain rfl := Option.some.inj H
         obtain ⟨Ao46, co46, eo46⟩ := Kd.R_slice HO_5.out
         subst eo46
         go_wp2
         repeat (go_quiet (fail); try go_wp2)
         go_ret
         exact ⟨by first | rfl | (simp [errW_none, errW_some] <;> rfl) | (simp [*, errW_none, errW_some] <;> rfl), by repeat (first | (with_reducible first | exact HB.out | apply below_alloc | apply pw_below_drewN | apply below_drew1 | refine below_set ?_ GE811.out) | exact HB.out)⟩

/-- THE ONE PURE STATEMENT of laws_FnWalkNodes: yours. -/
def laws_FnWalkNodes.Pure : Prop := ∀ (l0 : List Int), l0.length ≤ maxLen → l0.length * 1 ≤ 140737488351232 → (∀ x ∈ l0, (Lit.int .u8 x).wf = true) → ∃ k, laws_FnWalkNodes.f k l0 = some true
theorem laws_FnWalkNodes.walk (P : laws_FnWalkNodes.Pure) (a0 : Option Addr) (len0 cap0 : Nat) (z0 : List Int) (w : World) (w0 : (a0 = none ∧ len0 = 0 ∧ cap0 = 0 ∧ z0 = []) ∨ ∃ x, a0 = some x ∧ len0 ≤ cap0 ∧ cap0 ≤ maxLen ∧ z0.length = cap0 ∧ (∀ i, i < z0.length → w.cell? (x.add i) = some (.int .u8 (z0.getD i 0))) ∧ ∀ n ∈ z0, (Lit.int .u8 n).wf = true) (y0 : len0 * 1 ≤ 140737488351232) :
    Calls Try.prog 13 #[.slice a0 len0 cap0] w fun e w' => e = .returned (.bool true) ∧ Below w.heap.size w w' := by
  obtain ⟨l0, rfl, hr0, hm0, hw0, hc0⟩ := ReadsInt.ofRowC w0
  obtain ⟨k, h⟩ := P l0 hm0 y0 hw0
  refine (laws_FnWalkNodes.calls k _ _ l0 true w (Kd.C_of_reads (d := (0 : Int)) (h1 := fun _ => rfl) hr0) hc0 h).mono ?_
  rintro e w' ⟨rfl, hd⟩
  exact ⟨rfl, hd⟩

end Go.Proofs.Ytpjmkghmjpbldaa.Print
