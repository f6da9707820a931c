-- Made by this session's own program (wip/patch_print.py, over the kit's print). Lean checks it.
import Derived.Test.YtpjmkghmjpbldaaPrint0
import Derived.Test.YtpjmkghmjpbldaaPrintF42
import Derived.Test.YtpjmkghmjpbldaaPrintF43
import Derived.Test.YtpjmkghmjpbldaaPrintF44
namespace Go.Proofs.Ytpjmkghmjpbldaa.Print
open Go.RowKit Go.Proofs.YtpjmkghmjpbldaaW.PrintWords Go.Proofs.YtpjmkghmjpbldaaW.PrintLast Go.Proofs.YtpjmkghmjpbldaaW.PrintMore Go.Proofs.YtpjmkghmjpbldaaX
attribute [local go_sem] max2_int min2_int max_two min_two max_three min_three max_four min_four   -- for this text's walks alone
set_option linter.unusedVariables false
set_option linter.unusedSimpArgs false

abbrev z9_0 : Array Bool := #[false, false, false, false, false, false, false, false, false, false, false, false, false]
abbrev z9_1 : Array Bool := #[false, true, false, false, false, false, false, false, false, false, false, false, false]
abbrev z9_2 : Array Bool := #[false, true, true, false, false, false, false, false, false, false, false, false, false]
abbrev z9_3 : Array Bool := #[false, true, true, true, false, false, false, false, false, false, false, false, false]
abbrev z9_4 : Array Bool := #[true, true, true, true, false, false, false, false, false, false, false, false, false]
abbrev z9_5 : Array Bool := #[true, true, true, true, true, false, false, false, false, false, false, false, false]
abbrev z9_6 : Array Bool := #[true, true, true, true, true, true, false, false, false, false, false, false, false]
abbrev z9_7 : Array Bool := #[true, true, true, true, true, true, true, true, true, true, false, false, false]
abbrev z9_8 : Array Bool := #[true, true, true, true, true, true, true, true, true, true, true, false, false]
abbrev z9_9 : Array Bool := #[true, true, true, true, true, true, true, true, true, true, true, true, false]
abbrev z9_10 : Array Bool := #[true, true, true, true, true, true, true, true, true, true, true, true, true]
abbrev rR9 := @Kd.R_reads'
/-! ### laws_FnWalkOk: function 9 -/
mutual
def laws_FnWalkOk.j0 : Nat → List Int → List Int → Bool → Option (Bool)
  | 0, _, _, _ => none
  | k + 1, x0, x1, x16 => if x16 = true then (some true) else ((spec_DrawWalkOk.f k x0).bind fun bt634 => ((impl_WalkOk.f k bt634.1 bt634.2.1 bt634.2.2).bind fun t642 => ((spec_WalkOk.f k bt634.1 bt634.2.1 bt634.2.2).bind fun t643 => (if (t642 != t643) = true then (laws_FnWalkOk.j1 k x1 bt634.2.2 t642 true bt634.1 bt634.2.1) else (laws_FnWalkOk.j1 k x1 bt634.2.2 t642 (!t642) bt634.1 bt634.2.1)))))
def laws_FnWalkOk.j1 : Nat → List Int → List Int → Bool → Bool → Int → List (S37) → Option (Bool)
  | 0, _, _, _, _, _, _ => none
  | k + 1, x1, x6, x7, x33, x642000, x642001 => if x33 = true then ((spec_WalkOk.f k x642000 x642001 x6).bind fun t644 => (some (x7 == t644))) else (if (wrap64 ((x6.length : Int) + 1)) = 0 then (none) else (if 0 ≤ ((x1.length : Int) % (wrap64 ((x6.length : Int) + 1))) then (if ((x1.length : Int) % (wrap64 ((x6.length : Int) + 1))) ≤ (x6.length : Int) then ((impl_WalkOk.f k x642000 x642001 (x6.take (((x1.length : Int) % (wrap64 ((x6.length : Int) + 1))) : Int).toNat)).bind fun t649 => (if t649 = true then ((impl_WalkOk.f k x642000 x642001 (x6.drop (((x1.length : Int) % (wrap64 ((x6.length : Int) + 1))) : Int).toNat)).bind fun t654 => (some t654)) else (some false))) else (none)) else (none)))
end
def laws_FnWalkOk.f (k : Nat) (l0 : List Int) (l1 : List Int) : Option (Bool) := if (l0.length : Int) > 1048576 then (laws_FnWalkOk.j0 k l0 l1 true) else (laws_FnWalkOk.j0 k l0 l1 (decide ((l1.length : Int) > 1048576)))
theorem laws_FnWalkOk.mono_l : ∀ k, (∀ y0 y1 y2, LeO (laws_FnWalkOk.j0 k y0 y1 y2) (laws_FnWalkOk.j0 (k + 1) y0 y1 y2)) ∧ (∀ y0 y1 y2 y3 y4 y5, LeO (laws_FnWalkOk.j1 k y0 y1 y2 y3 y4 y5) (laws_FnWalkOk.j1 (k + 1) y0 y1 y2 y3 y4 y5))
  | 0 => ⟨fun _ _ _ r h => by simp [laws_FnWalkOk.j0] at h, fun _ _ _ _ _ _ r h => by simp [laws_FnWalkOk.j1] at h⟩
  | k + 1 => by
    obtain ⟨ih0, ih1⟩ := laws_FnWalkOk.mono_l k
    refine ⟨?_, ?_⟩
    · intro y0 y1 y2
      unfold laws_FnWalkOk.j0
      repeat' first
      | (with_reducible exact ih0 _ _ _)
      | (with_reducible exact ih1 _ _ _ _ _ _)
      | (with_reducible exact impl_WalkOk.mono _ _ _ _)
      | (with_reducible exact spec_DrawWalkOk.mono _ _)
      | (with_reducible exact spec_WalkOk.mono _ _ _ _)
      | (with_reducible exact LeO.refl _)
      | (with_reducible exact LeO.none _)
      | (with_reducible refine LeO.ite ?_ ?_)
      | (with_reducible refine LeO.bind ?_ (fun _ => ?_))
      | exact ih0 _ _ _
      | exact ih1 _ _ _ _ _ _
      | exact impl_WalkOk.mono _ _ _ _
      | exact spec_DrawWalkOk.mono _ _
      | exact spec_WalkOk.mono _ _ _ _
      | exact LeO.none _
      | refine LeO.ite ?_ ?_
      | refine LeO.bind ?_ (fun _ => ?_)
    · intro y0 y1 y2 y3 y4 y5
      unfold laws_FnWalkOk.j1
      repeat' first
      | (with_reducible exact ih0 _ _ _)
      | (with_reducible exact ih1 _ _ _ _ _ _)
      | (with_reducible exact impl_WalkOk.mono _ _ _ _)
      | (with_reducible exact spec_DrawWalkOk.mono _ _)
      | (with_reducible exact spec_WalkOk.mono _ _ _ _)
      | (with_reducible exact LeO.refl _)
      | (with_reducible exact LeO.none _)
      | (with_reducible refine LeO.ite ?_ ?_)
      | (with_reducible refine LeO.bind ?_ (fun _ => ?_))
      | exact ih0 _ _ _
      | exact ih1 _ _ _ _ _ _
      | exact impl_WalkOk.mono _ _ _ _
      | exact spec_DrawWalkOk.mono _ _
      | exact spec_WalkOk.mono _ _ _ _
      | exact LeO.none _
      | refine LeO.ite ?_ ?_
      | refine LeO.bind ?_ (fun _ => ?_)
theorem laws_FnWalkOk.mono : ∀ a0 a1 k, LeO (laws_FnWalkOk.f k a0 a1) (laws_FnWalkOk.f (k + 1) a0 a1) := by
  intro a0 a1 k
  obtain ⟨ih0, ih1⟩ := laws_FnWalkOk.mono_l k
  unfold laws_FnWalkOk.f
  repeat' first
      | (with_reducible exact ih0 _ _ _)
      | (with_reducible exact ih1 _ _ _ _ _ _)
      | (with_reducible exact impl_WalkOk.mono _ _ _ _)
      | (with_reducible exact spec_DrawWalkOk.mono _ _)
      | (with_reducible exact spec_WalkOk.mono _ _ _ _)
      | (with_reducible exact LeO.refl _)
      | (with_reducible exact LeO.none _)
      | (with_reducible refine LeO.ite ?_ ?_)
      | (with_reducible refine LeO.bind ?_ (fun _ => ?_))
      | exact ih0 _ _ _
      | exact ih1 _ _ _ _ _ _
      | exact impl_WalkOk.mono _ _ _ _
      | exact spec_DrawWalkOk.mono _ _
      | exact spec_WalkOk.mono _ _ _ _
      | exact LeO.none _
      | refine LeO.ite ?_ ?_
      | refine LeO.bind ?_ (fun _ => ?_)
def laws_FnWalkOk.T8 : Bool × List (List Nat × List Nat) := (true, [([], []), ([], []), ([], []), ([1, 2], [1, 2]), ([0, 3], [0, 3]), ([4, 4], [4]), ([5], [5]), ([5], [5]), ([5], [5]), ([7, 8, 5], [5, 7, 8]), ([6, 9, 5, 5], [5, 6, 9]), ([5, 10], [5, 10]), ([11, 10, 0, 1, 2, 3, 4, 5, 6, 7, 8, 9, 10, 11], [11])])
def laws_FnWalkOk.B8 : List Nat := [0, 0, 0, 6, 15, 31, 63, 63, 63, 447, 1023, 2047, 4095]
theorem laws_FnWalkOk.tab8 : rtab .any (opsOf Try.f9 8) = laws_FnWalkOk.T8 := by kernel_rfl
theorem laws_FnWalkOk.bits8 : waitsOk laws_FnWalkOk.T8.2 laws_FnWalkOk.B8 = true := by kernel_rfl
set_option maxHeartbeats 8000000 in
set_option maxRecDepth 100000 in
theorem laws_FnWalkOk.calls (k : Nat) (A0 : Option Addr) (c0 : Nat) (l0 : List Int) (A1 : Option Addr) (c1 : Nat) (l1 : List Int) (r : Bool) (w : World) (hr0 : Kd.C (Kd.int .u8) w A0 l0.length l0) (hc0 : l0.length ≤ c0) (hr1 : Kd.C (Kd.int .u8) w A1 l1.length l1) (hc1 : l1.length ≤ c1) (h : laws_FnWalkOk.f k l0 l1 = some r) :
    Calls Try.prog 9 #[.slice A0 l0.length c0, .slice A1 l1.length c1] w fun e w' => e = .returned (.bool r) ∧ Below w.heap.size w w' := by
  have hu29 := Try.underlying29
  have HR0 := Aside0.mk hr0
  have HC0 := Aside0.mk hc0
  clear hr0 hc0
  have HR1 := Aside0.mk hr1
  have HC1 := Aside0.mk hc1
  clear hr1 hc1
  have HB := Aside0.mk (Below.refl w.heap.size w)
  have H : (if (l0.length : Int) > 1048576 then (laws_FnWalkOk.j0 k l0 l1 true) else (laws_FnWalkOk.j0 k l0 l1 (decide ((l1.length : Int) > 1048576)))) = some r := h
  clear h
  have HC3 := Aside0.mk H
  clear H
  go_enter Try.func9, Try.ntmps9
  go_upto_region 1 with (fail)
  go_cut [16] (fun v16 wc => ∃ (kq : Nat) (x16_2 : Bool), v16 = .bool x16_2 ∧ Aside0 (laws_FnWalkOk.j0 kq l0 l1 x16_2 = some r) ∧ Aside0 (kq ≤ k) ∧ Aside0 (Below w.heap.size w wc))
  case first =>
   have H := HC3.out
   clear HC3
   by_cases c4 : (l0.length : Int) > 1048576
   ·rw [if_pos c4] at H
    have c4b0 : decide (1048576 < (l0.length : Int)) = true := decide_eq_true c4
    have c4b1 : decide (1048576 < l0.length) = true := decide_eq_true (by omega)
    clear c4
    (first | rw [c4b0] | (simp only [i64_w, i32_w]; rw [c4b0]) | skip)
    have H' := Aside0.mk H
    clear H
    go_wp2
    go_meet
    case rel => exact ⟨_, (true), ns_, H', ⟨by first | omega | exact Nat.le_refl _⟩, ⟨by repeat (first | (with_reducible first | exact HB.out | apply below_alloc | apply pw_below_drewN | apply below_drew1) | exact HB.out)⟩⟩
   ·rw [if_neg c4] at H
    have c4b0 : decide (1048576 < (l0.length : Int)) = false := decide_eq_false c4
    have c4b1 : decide (1048576 < l0.length) = false := decide_eq_false (by omega)
    clear c4
    (first | rw [c4b0] | (simp only [i64_w, i32_w]; rw [c4b0]) | skip)
    have H' := Aside0.mk H
    clear H
    go_wp2
    go_meet
    case rel => exact ⟨_, (decide ((l1.length : Int) > 1048576)), ns_, H', ⟨by first | omega | exact Nat.le_refl _⟩, ⟨by repeat (first | (with_reducible first | exact HB.out | apply below_alloc | apply pw_below_drewN | apply below_drew1) | exact HB.out)⟩⟩
  case rest =>
   clear HC3
   try clear c1
   try clear p2
   try clear c4
   try clear c4b0
   try clear c4b1
   obtain ⟨kq, x16_2, rfl, HA, HJ2, HB⟩ := hcut
   cases kq with
   | zero => exact absurd HA.out (by simp [laws_FnWalkOk.j0])
   | succ kj2 =>
    have H := HA.out
    clear HA
    simp only [laws_FnWalkOk.j0] at H
    by_cases c5 : x16_2 = true
    ·subst c5
     have H1 : (some true) = some r := by rw [if_pos rfl] at H; exact H
     clear H
     have H := H1
     clear H1
     obtain rfl := Option.some.inj H
     go_wp2
     go_ret
     exact ⟨by first | rfl | (simp [errW_none, errW_some] <;> rfl) | (simp [*, errW_none, errW_some] <;> rfl), by repeat (first | (with_reducible first | exact HB.out | apply below_alloc | apply pw_below_drewN | apply below_drew1) | exact HB.out)⟩
    ·replace c5 := Bool.eq_false_iff.mpr c5
     subst c5
     have H1 : ((spec_DrawWalkOk.f kj2 l0).bind fun bt634 => ((impl_WalkOk.f kj2 bt634.1 bt634.2.1 bt634.2.2).bind fun t642 => ((spec_WalkOk.f kj2 bt634.1 bt634.2.1 bt634.2.2).bind fun t643 => (if (t642 != t643) = true then (laws_FnWalkOk.j1 kj2 l1 bt634.2.2 t642 true bt634.1 bt634.2.1) else (laws_FnWalkOk.j1 kj2 l1 bt634.2.2 t642 (!t642) bt634.1 bt634.2.1))))) = some r := by rw [if_neg (show ¬ (false = true) by decide)] at H; exact H
     clear H
     have H := H1
     clear H1
     replace H := Option.bind_eq_some_iff.mp H
     obtain ⟨⟨t634, t635, t638⟩, A60, H⟩ := H
     replace H : ((impl_WalkOk.f kj2 t634 t635 t638).bind fun t642 => ((spec_WalkOk.f kj2 t634 t635 t638).bind fun t643 => (if (t642 != t643) = true then (laws_FnWalkOk.j1 kj2 l1 t638 t642 true t634 t635) else (laws_FnWalkOk.j1 kj2 l1 t638 t642 (!t642) t634 t635)))) = some r := H
     have A6 := Aside0.mk A60
     clear A60
     replace H := Option.bind_eq_some_iff.mp H
     obtain ⟨t642, A70, H⟩ := H
     replace H : ((spec_WalkOk.f kj2 t634 t635 t638).bind fun t643 => (if (t642 != t643) = true then (laws_FnWalkOk.j1 kj2 l1 t638 t642 true t634 t635) else (laws_FnWalkOk.j1 kj2 l1 t638 t642 (!t642) t634 t635))) = some r := H
     have A7 := Aside0.mk A70
     clear A70
     have HC8 := Aside0.mk H
     clear H
     go_upto_region 5 with (first | ((with_reducible refine gate_callee (f := 42) rfl ?_); refine goesL_ (some 19) rfl rfl Try.func42 (by kernel_rfl) rfl #[.slice A0 l0.length c0] rfl na_ ?_; (with_reducible refine (spec_DrawWalkOk.calls kj2 _ _ l0 t634 t635 t638 _ ?side1 ?side2 A6.out).mono ?_); (case side1 => exact nc_ (Kd.C_below HR0.out HB.out)); (case side2 => exact HC0.out); rintro e w9 ⟨v636, v639, rfl, ho0, ho1, hb⟩; refine ⟨_, rfl, ?_⟩; have n0_ := Aside0.mk (Kd.R_lower ho0 (below_size (ne_ HB.out))); have n1_ := Aside0.mk (Kd.R_lower ho1 (below_size (ne_ HB.out))); have n2_ := Aside0.mk (below_step (ne_ HB.out) hb); clear HB; have HO637 := n0_; have HO640 := n1_; have HB := n2_; clear n0_ n1_ n2_; (try clear hb); (try clear hb2); (try clear hk); (try clear hi); (try clear ho0); (try clear ho1)) | ((with_reducible refine gate_dst (N := 5) rfl ?_); (try (refine gate_guard (by rfl) ?_; dsimp only)); refine box_event ?hg (N := 5) ?hd (cs := #[.int .i64 0, .slice none 0 0]) (t := 29) ?hr ?_; (case hd => rfl); (case hg => rfl); (case hr => first | (go_simp; done) | (go_simp; rfl)); intro gb641 hg w10 hbox hb; have n0_ := Aside0.mk (Kd.R_below (nr_ HO637.out) hb); have n1_ := Aside0.mk (Kd.R_below (nr_ HO640.out) hb); have n2_ := Aside0.mk (below_step (ne_ HB.out) hb); have n3_ := Aside0.mk (hbox); have n4_ := Aside0.mk ((by rw [hg]; exact (below_size (ne_ HB.out)) : w.heap.size ≤ gb641)); have n5_ := Aside0.mk ((by rw [hg]; exact (below_size (ne_ HB.out)) : w.heap.size ≤ gb641)); clear HO637; clear HO640; clear HB; have HO637 := n0_; have HO640 := n1_; have HB := n2_; have BK641 := n3_; have GW641 := n4_; have GE641 := n5_; clear n0_ n1_ n2_ n3_ n4_ n5_; clear hb hbox hg; have hcz11_0 : w10.cell? ⟨gb641, 0, none⟩ = some (.int .i64 0) := (blk_cell BK641.out 0).trans rfl; have hcz11_1 : w10.cell? ⟨gb641, 1, none⟩ = some (.slice none 0 0) := (blk_cell BK641.out 1).trans rfl; have hfz11_0 := blk_frozen BK641.out 0; have hfz11_1 := blk_frozen BK641.out 1; obtain ⟨Ao12, co12, eo12⟩ := Kd.R_slice HO637.out; subst eo12; obtain ⟨Ao13, co13, eo13⟩ := Kd.R_slice HO640.out; subst eo13) | ((with_reducible refine gate_callee (f := 43) rfl ?_); refine goesL_ (some 24) rfl rfl Try.func43 (by kernel_rfl) rfl #[.agg #[.int .i64 t634, .slice Ao12 t635.length co12], .slice Ao13 t638.length co13] rfl na_ ?_; (with_reducible refine (impl_WalkOk.calls kj2 t634 _ _ t635 _ _ t638 t642 _ ?side1 ?side2 ?side3 ?side4 A7.out).mono ?_); (case side1 => refine (rR9 (e := 37) (base := w.heap.size) (ok := fun k_ => True) (n := t635.length) (c := co12) ?_).2.2; exact (by (with_reducible repeat (first | apply Kd.R_alloc | apply Kd.R_drewN | apply Kd.R_drew)); exact (Kd.R_mono (Kd.R_far (p := ⟨gb641, 1, none⟩) (Kd.R_far (p := ⟨gb641, 0, none⟩) (Kd.R_types HO637.out BK641.out (by decide)) (fun _ hk => hk.2) (.int .i64 t634)) (fun _ hk => hk.2) (.slice Ao12 t635.length co12)) (fun _ h_ => h_.1)))); (case side2 => exact (rR9 HO637.out).2.1); (case side3 => refine (rR9 (e := 3) (base := w.heap.size) (ok := fun k_ => True) (n := t638.length) (c := co13) ?_).2.2; exact (by (with_reducible repeat (first | apply Kd.R_alloc | apply Kd.R_drewN | apply Kd.R_drew)); exact (Kd.R_mono (Kd.R_far (p := ⟨gb641, 1, none⟩) (Kd.R_far (p := ⟨gb641, 0, none⟩) (Kd.R_types HO640.out BK641.out (by decide)) (fun _ hk => hk.2) (.int .i64 t634)) (fun _ hk => hk.2) (.slice Ao12 t635.length co12)) (fun _ h_ => h_.1)))); (case side4 => exact (rR9 HO640.out).2.1); rintro e w14 ⟨rfl, hb⟩; refine ⟨_, rfl, ?_⟩; have n0_ := Aside0.mk (Kd.R_below (by (with_reducible repeat (first | apply Kd.R_alloc | apply Kd.R_drewN | apply Kd.R_drew)); exact (Kd.R_mono (Kd.R_far (p := ⟨gb641, 1, none⟩) (Kd.R_far (p := ⟨gb641, 0, none⟩) (Kd.R_types HO637.out BK641.out (by decide)) (fun _ hk => hk.2) (.int .i64 t634)) (fun _ hk => hk.2) (.slice Ao12 t635.length co12)) (fun _ h_ => h_.1))) hb); have n1_ := Aside0.mk (Kd.R_below (by (with_reducible repeat (first | apply Kd.R_alloc | apply Kd.R_drewN | apply Kd.R_drew)); exact (Kd.R_mono (Kd.R_far (p := ⟨gb641, 1, none⟩) (Kd.R_far (p := ⟨gb641, 0, none⟩) (Kd.R_types HO640.out BK641.out (by decide)) (fun _ hk => hk.2) (.int .i64 t634)) (fun _ hk => hk.2) (.slice Ao12 t635.length co12)) (fun _ h_ => h_.1))) hb); have n2_ := Aside0.mk (blk_below (g := gb641) (o := .cells #[.int .i64 t634, .slice Ao12 t635.length co12] 29 (0, 0)) (by (with_reducible repeat (first | refine blk_drewN ?_ _ | refine blk_drew ?_ | refine blk_alloc ?_ _)); refine blk_put (cs := #[.int .i64 t634, .slice none 0 0]) ?_ 1 _ rfl; (with_reducible repeat (first | refine blk_drewN ?_ _ | refine blk_drew ?_ | refine blk_alloc ?_ _)); refine blk_put (cs := #[.int .i64 0, .slice none 0 0]) ?_ 0 _ rfl; (with_reducible repeat (first | refine blk_drewN ?_ _ | refine blk_drew ?_ | refine blk_alloc ?_ _)); exact BK641.out) hb); have n3_ := Aside0.mk (below_step (ne_ HB.out) hb); clear HO637; clear HO640; clear BK641; clear HB; have HO637 := n0_; have HO640 := n1_; have BK641 := n2_; have HB := n3_; clear n0_ n1_ n2_ n3_; (try clear hb); (try clear hb2); (try clear hk); (try clear hi)))
     (try simp only [Act.put, List.setIfInBounds_toArray, List.set_cons_zero, List.set_cons_succ])
     go_cut [33] (fun v33 wc => ∃ (kq : Nat) (x33_7 : Bool), v33 = .bool x33_7 ∧ Aside0 (laws_FnWalkOk.j1 kq l1 t638 t642 x33_7 t634 t635 = some r) ∧ Aside0 (kq ≤ kj2) ∧ Aside0 (Kd.R (Kd.int .i64) 3 wc w.heap.size (fun _ => True) (.slice Ao13 t638.length co13) t638) ∧ Aside0 (Kd.R k37 37 wc w.heap.size (fun _ => True) (.slice Ao12 t635.length co12) t635) ∧ Aside0 (wc.heap[gb641]? = some (.cells #[.int .i64 t634, (.slice Ao12 t635.length co12)] 29 (0, 0))) ∧ Aside0 (Below w.heap.size w wc))
     case first =>
      have H := HC8.out
      clear HC8
      replace H := Option.bind_eq_some_iff.mp H
      obtain ⟨t643, A150, H⟩ := H
      replace H : (if (t642 != t643) = true then (laws_FnWalkOk.j1 kj2 l1 t638 t642 true t634 t635) else (laws_FnWalkOk.j1 kj2 l1 t638 t642 (!t642) t634 t635)) = some r := H
      have A15 := Aside0.mk A150
      clear A150
      by_cases c16 : (t642 != t643) = true
      ·rw [if_pos c16] at H
       have c16b0 : (t642 != t643) = true := c16
       (try (have c16b1 : decide (t642 = t643) = false := by simpa using c16))
       (try (have c16b2 : (t642 == t643) = false := by simpa using c16))
       (try (have c16b3 : ¬ (t642 = t643) := by simpa using c16))
       clear c16
       (first | rw [c16b0] | (simp only [i64_w, i32_w]; rw [c16b0]) | skip)
       have H' := Aside0.mk H
       clear H
       have hcz17_0 : w14.cell? ⟨gb641, 0, none⟩ = some (.int .i64 t634) := (blk_cell BK641.out 0).trans rfl
       have hcz17_1 : w14.cell? ⟨gb641, 1, none⟩ = some (.slice Ao12 t635.length co12) := (blk_cell BK641.out 1).trans rfl
       have hfz17_0 := blk_frozen BK641.out 0
       have hfz17_1 := blk_frozen BK641.out 1
       go_wp2_with (first | ((with_reducible refine gate_callee (f := 44) rfl ?_); refine goesL_ (some 28) rfl rfl Try.func44 (by kernel_rfl) rfl #[.agg #[.int .i64 t634, .slice Ao12 t635.length co12], .slice Ao13 t638.length co13] rfl na_ ?_; (with_reducible refine (spec_WalkOk.calls kj2 t634 _ _ t635 _ _ t638 t643 _ ?side1 ?side2 ?side3 ?side4 A15.out).mono ?_); (case side1 => exact nc_ (rR9 HO637.out).2.2); (case side2 => exact (rR9 HO637.out).2.1); (case side3 => exact nc_ (rR9 HO640.out).2.2); (case side4 => exact (rR9 HO640.out).2.1); rintro e w18 ⟨rfl, hb⟩; refine ⟨_, rfl, ?_⟩; have n0_ := Aside0.mk (Kd.R_below (nr_ HO637.out) hb); have n1_ := Aside0.mk (Kd.R_below (nr_ HO640.out) hb); have n2_ := Aside0.mk (blk_below (g := gb641) (o := .cells #[.int .i64 t634, .slice Ao12 t635.length co12] 29 (0, 0)) (nb_ BK641.out) hb); have n3_ := Aside0.mk (below_step (ne_ HB.out) hb); clear HO637; clear HO640; clear BK641; clear HB; have HO637 := n0_; have HO640 := n1_; have BK641 := n2_; have HB := n3_; clear n0_ n1_ n2_ n3_; (try clear hb); (try clear hb2); (try clear hk); (try clear hi)))
       go_meet
       case rel => exact ⟨_, (true), ns_, H', ⟨by have := HJ2.out; first | omega | exact Nat.le_refl _⟩, ⟨by (with_reducible repeat (first | apply Kd.R_alloc | apply Kd.R_drewN | apply Kd.R_drew)); exact HO640.out⟩, ⟨by (with_reducible repeat (first | apply Kd.R_alloc | apply Kd.R_drewN | apply Kd.R_drew)); exact HO637.out⟩, ⟨by (with_reducible repeat (first | refine blk_drewN ?_ _ | refine blk_drew ?_ | refine blk_alloc ?_ _)); exact BK641.out⟩, ⟨by repeat (first | (with_reducible first | exact HB.out | apply below_alloc | apply pw_below_drewN | apply below_drew1 | refine below_set ?_ GE641.out) | exact HB.out)⟩⟩
      ·rw [if_neg c16] at H
       have c16b0 : (t642 != t643) = false := by simpa using c16
       (try (have c16b1 : decide (t642 = t643) = true := by simpa using c16))
       (try (have c16b2 : (t642 == t643) = true := by simpa using c16))
       clear c16
       (first | rw [c16b0] | (simp only [i64_w, i32_w]; rw [c16b0]) | skip)
       have H' := Aside0.mk H
       clear H
       have hcz19_0 : w14.cell? ⟨gb641, 0, none⟩ = some (.int .i64 t634) := (blk_cell BK641.out 0).trans rfl
       have hcz19_1 : w14.cell? ⟨gb641, 1, none⟩ = some (.slice Ao12 t635.length co12) := (blk_cell BK641.out 1).trans rfl
       have hfz19_0 := blk_frozen BK641.out 0
       have hfz19_1 := blk_frozen BK641.out 1
       go_wp2_with (first | ((with_reducible refine gate_callee (f := 44) rfl ?_); refine goesL_ (some 28) rfl rfl Try.func44 (by kernel_rfl) rfl #[.agg #[.int .i64 t634, .slice Ao12 t635.length co12], .slice Ao13 t638.length co13] rfl na_ ?_; (with_reducible refine (spec_WalkOk.calls kj2 t634 _ _ t635 _ _ t638 t643 _ ?side1 ?side2 ?side3 ?side4 A15.out).mono ?_); (case side1 => exact nc_ (rR9 HO637.out).2.2); (case side2 => exact (rR9 HO637.out).2.1); (case side3 => exact nc_ (rR9 HO640.out).2.2); (case side4 => exact (rR9 HO640.out).2.1); rintro e w20 ⟨rfl, hb⟩; refine ⟨_, rfl, ?_⟩; have n0_ := Aside0.mk (Kd.R_below (nr_ HO637.out) hb); have n1_ := Aside0.mk (Kd.R_below (nr_ HO640.out) hb); have n2_ := Aside0.mk (blk_below (g := gb641) (o := .cells #[.int .i64 t634, .slice Ao12 t635.length co12] 29 (0, 0)) (nb_ BK641.out) hb); have n3_ := Aside0.mk (below_step (ne_ HB.out) hb); clear HO637; clear HO640; clear BK641; clear HB; have HO637 := n0_; have HO640 := n1_; have BK641 := n2_; have HB := n3_; clear n0_ n1_ n2_ n3_; (try clear hb); (try clear hb2); (try clear hk); (try clear hi)))
       go_meet
       case rel => exact ⟨_, (!t642), ns_, H', ⟨by have := HJ2.out; first | omega | exact Nat.le_refl _⟩, ⟨by (with_reducible repeat (first | apply Kd.R_alloc | apply Kd.R_drewN | apply Kd.R_drew)); exact HO640.out⟩, ⟨by (with_reducible repeat (first | apply Kd.R_alloc | apply Kd.R_drewN | apply Kd.R_drew)); exact HO637.out⟩, ⟨by (with_reducible repeat (first | refine blk_drewN ?_ _ | refine blk_drew ?_ | refine blk_alloc ?_ _)); exact BK641.out⟩, ⟨by repeat (first | (with_reducible first | exact HB.out | apply below_alloc | apply pw_below_drewN | apply below_drew1 | refine below_set ?_ GE641.out) | exact HB.out)⟩⟩
     case rest =>
      clear HC8
      try clear c1
      try clear p2
      try clear c4
      try clear c4b0
      try clear c4b1
      try clear c5
      try clear c9
      try clear c16
      try clear c16b0
      try clear c16b1
      try clear c16b2
      try clear hcz11_0
      try clear hcz11_1
      try clear hcz17_0
      try clear hcz17_1
      try clear hcz19_0
      try clear hcz19_1
      try clear hfz11_0
      try clear hfz11_1
      try clear hfz17_0
      try clear hfz17_1
      try clear hfz19_0
      try clear hfz19_1
      try clear p2
      obtain ⟨kq, x33_7, rfl, HA, HJ7, HO_6, HO_642001, BK641, HB⟩ := hcut
      cases kq with
      | zero => exact absurd HA.out (by simp [laws_FnWalkOk.j1])
      | succ kj7 =>
       have H := HA.out
       clear HA
       simp only [laws_FnWalkOk.j1] at H
       by_cases c21 : x33_7 = true
       ·subst c21
        have H1 : ((spec_WalkOk.f kj7 t634 t635 t638).bind fun t644 => (some (t642 == t644))) = some r := by rw [if_pos rfl] at H; exact H
        clear H
        have H := H1
        clear H1
        replace H := Option.bind_eq_some_iff.mp H
        obtain ⟨t644, A220, H⟩ := H
        replace H : (some (t642 == t644)) = some r := H
        have A22 := Aside0.mk A220
        clear A220
        obtain rfl := Option.some.inj H
        have hcz23_0 : wc.cell? ⟨gb641, 0, none⟩ = some (.int .i64 t634) := (blk_cell BK641.out 0).trans rfl
        have hcz23_1 : wc.cell? ⟨gb641, 1, none⟩ = some (.slice Ao12 t635.length co12) := (blk_cell BK641.out 1).trans rfl
        have hfz23_0 := blk_frozen BK641.out 0
        have hfz23_1 := blk_frozen BK641.out 1
        go_wp2_with (first | ((with_reducible refine gate_callee (f := 44) rfl ?_); refine goesL_ (some 37) rfl rfl Try.func44 (by kernel_rfl) rfl #[.agg #[.int .i64 t634, .slice Ao12 t635.length co12], .slice Ao13 t638.length co13] rfl na_ ?_; (with_reducible refine (spec_WalkOk.calls kj7 t634 _ _ t635 _ _ t638 t644 _ ?side1 ?side2 ?side3 ?side4 A22.out).mono ?_); (case side1 => exact nc_ (rR9 HO_642001.out).2.2); (case side2 => exact (rR9 HO_642001.out).2.1); (case side3 => exact nc_ (rR9 HO_6.out).2.2); (case side4 => exact (rR9 HO_6.out).2.1); rintro e w24 ⟨rfl, hb⟩; refine ⟨_, rfl, ?_⟩; have n0_ := Aside0.mk (Kd.R_below (nr_ HO_6.out) hb); have n1_ := Aside0.mk (Kd.R_below (nr_ HO_642001.out) hb); have n2_ := Aside0.mk (blk_below (g := gb641) (o := .cells #[.int .i64 t634, .slice Ao12 t635.length co12] 29 (0, 0)) (nb_ BK641.out) hb); have n3_ := Aside0.mk (below_step (ne_ HB.out) hb); clear HO_6; clear HO_642001; clear BK641; clear HB; have HO_6 := n0_; have HO_642001 := n1_; have BK641 := n2_; have HB := n3_; clear n0_ n1_ n2_ n3_; (try clear hb); (try clear hb2); (try clear hk); (try clear hi)))
        go_ret
        exact ⟨by first | rfl | (simp [errW_none, errW_some] <;> rfl) | (simp [*, errW_none, errW_some] <;> rfl), by repeat (first | (with_reducible first | exact HB.out | apply below_alloc | apply pw_below_drewN | apply below_drew1 | refine below_set ?_ GE641.out) | exact HB.out)⟩
       ·replace c21 := Bool.eq_false_iff.mpr c21
        subst c21
        have H1 : (if (wrap64 ((t638.length : Int) + 1)) = 0 then (none) else (if 0 ≤ ((l1.length : Int) % (wrap64 ((t638.length : Int) + 1))) then (if ((l1.length : Int) % (wrap64 ((t638.length : Int) + 1))) ≤ (t638.length : Int) then ((impl_WalkOk.f kj7 t634 t635 (t638.take (((l1.length : Int) % (wrap64 ((t638.length : Int) + 1))) : Int).toNat)).bind fun t649 => (if t649 = true then ((impl_WalkOk.f kj7 t634 t635 (t638.drop (((l1.length : Int) % (wrap64 ((t638.length : Int) + 1))) : Int).toNat)).bind fun t654 => (some t654)) else (some false))) else (none)) else (none))) = some r := by rw [if_neg (show ¬ (false = true) by decide)] at H; exact H
        clear H
        have H := H1
        clear H1
        by_cases c25 : (wrap64 ((t638.length : Int) + 1)) = 0
        ·rw [if_pos c25] at H
         exact absurd H (by simp)
        ·rw [if_neg c25] at H
         have c25b0 : ((wrap64 ((t638.length : Int) + 1)) == 0) = false := beq_eq_false_iff_ne.mpr c25
         have c25b1 : ((wrap64 ((t638.length : Int) + 1)) != 0) = true := bne_iff_ne.mpr c25
         obtain ⟨ji26, hji26⟩ : ∃ j_ : Int, ((l1.length : Int) % (wrap64 ((t638.length : Int) + 1))) = j_ := ⟨_, rfl⟩
         replace H : (if 0 ≤ (ji26) then (if (ji26) ≤ (t638.length : Int) then ((impl_WalkOk.f kj7 t634 t635 (t638.take ((ji26) : Int).toNat)).bind fun t649 => (if t649 = true then ((impl_WalkOk.f kj7 t634 t635 (t638.drop ((ji26) : Int).toNat)).bind fun t654 => (some t654)) else (some false))) else (none)) else (none)) = some r := by first | (rw [hji26] at H; exact H) | (simp only [hji26] at H ⊢; exact H)
         by_cases c27 : 0 ≤ (ji26)
         ·rw [if_pos c27] at H
          have c27b0 := eq_true c27
          have c27b1 : decide (0 ≤ (ji26)) = true := decide_eq_true c27
          clear c27
          by_cases c28 : (ji26) ≤ (t638.length : Int)
          ·rw [if_pos c28] at H
           have c28b0 := eq_true c28
           have c28b1 : decide ((ji26) ≤ (t638.length : Int)) = true := decide_eq_true c28
           clear c28
           obtain ⟨y645, hy645⟩ : ∃ y_ : List Int, y_ = (t638.take ((ji26) : Int).toNat) := ⟨_, rfl⟩
           replace H : ((impl_WalkOk.f kj7 t634 t635 y645).bind fun t649 => (if t649 = true then ((impl_WalkOk.f kj7 t634 t635 (t638.drop ((ji26) : Int).toNat)).bind fun t654 => (some t654)) else (some false))) = some r := by first | (rw [hy645]; with_reducible exact H) | (have H2_ := (Option.bind_some _ _).symm.trans H; rw [hy645]; with_reducible exact H2_) | (have H2_ := (Option.bind_some _ _).symm.trans H; with_reducible exact H2_) | with_reducible exact H | (rw [hy645]; exact H) | exact H
           have Ny645 := Aside0.mk hy645
           clear hy645
           replace H := Option.bind_eq_some_iff.mp H
           obtain ⟨t649, A290, H⟩ := H
           replace H : (if t649 = true then ((impl_WalkOk.f kj7 t634 t635 (t638.drop ((ji26) : Int).toNat)).bind fun t654 => (some t654)) else (some false)) = some r := H
           have A29 := Aside0.mk A290
           clear A290
           by_cases c30 : t649 = true
           ·subst c30
            have H1 : ((impl_WalkOk.f kj7 t634 t635 (t638.drop ((ji26) : Int).toNat)).bind fun t654 => (some t654)) = some r := by rw [if_pos rfl] at H; exact H
            clear H
            have H := H1
            clear H1
            have c31b0 := eq_true (of_decide_eq_true nx_ : 0 ≤ (ji26))
            have c32b0 := eq_true (of_decide_eq_true nx_ : (ji26) ≤ (t638.length : Int))
            obtain ⟨y650, hy650⟩ : ∃ y_ : List Int, y_ = (t638.drop ((ji26) : Int).toNat) := ⟨_, rfl⟩
            replace H : ((impl_WalkOk.f kj7 t634 t635 y650).bind fun t654 => (some t654)) = some r := by first | (rw [hy650]; with_reducible exact H) | (have H2_ := (Option.bind_some _ _).symm.trans H; rw [hy650]; with_reducible exact H2_) | (have H2_ := (Option.bind_some _ _).symm.trans H; with_reducible exact H2_) | with_reducible exact H | (rw [hy650]; exact H) | exact H
            have Ny650 := Aside0.mk hy650
            clear hy650
            replace H := Option.bind_eq_some_iff.mp H
            obtain ⟨t654, A330, H⟩ := H
            replace H : (some t654) = some r := H
            have A33 := Aside0.mk A330
            clear A330
            obtain rfl := Option.some.inj H
            try go_wp2
            have n0_ := Aside0.mk (Kd.R_drew HO_6.out)
            have n1_ := Aside0.mk (Kd.R_drew HO_642001.out)
            have n2_ := Aside0.mk (blk_drew BK641.out)
            have n3_ := Aside0.mk (below_drew1 HB.out)
            clear HO_6
            clear HO_642001
            clear BK641
            clear HB
            have HO_6 := n0_
            have HO_642001 := n1_
            have BK641 := n2_
            have HB := n3_
            clear n0_ n1_ n2_ n3_
            have q35 : ((ji26) : Int) ≤ ((t638.length : Int) : Int) := of_decide_eq_true nx_
            obtain ⟨i035, hi035, _, hsz35, _⟩ := info_parts info3
            have hroom35 : t638.length ≤ co13 := (rR9 HO_6.out).2.1
            have hC35 : Kd.C (Kd.int .i64) _ Ao13 t638.length t638 := (rR9 HO_6.out).2.2
            have hcut35 := cut_to (P := Try.prog) 41 3 .i64 Try.underlying41 hi035 Ao13 t638.length co13 (ji26) (of_decide_eq_true nx_) q35 hroom35
            have hr35 := Kd.C_take (m := ((ji26) : Int).toNat) hC35 (by omega)
            have hy35 : y645.length = ((ji26) : Int).toNat := (by rw [Ny645.out, List.length_take]; omega)
            rw [← Ny645.out] at hr35
            rw [← hy35] at hcut35
            have HR648 := Aside0.mk hr35
            have HC648 := Aside0.mk (show y645.length ≤ co13 from by omega)
            clear hr35 hC35 hroom35 hi035 hsz35
            have KY35 := Aside0.mk hy35
            clear hy35
            have KL35 := Aside0.mk (show ((ji26) : Int).toNat ≤ t638.length from by omega)
            replace q35 := eq_true q35
            refine start_ (n := 13) (S := fun w' => w'.cell? ⟨gb641, 0, none⟩ = some (.int .i64 t634) ∧ w'.cell? ⟨gb641, 1, none⟩ = some (.slice Ao12 t635.length co12)) (ds := []) z9_0 (by kernel_rfl) rfl rfl ⟨(blk_cell BK641.out 0).trans rfl, (blk_cell BK641.out 1).trans rfl⟩ (fun hHeld => ?_); refine with_tabW laws_FnWalkOk.tab8 laws_FnWalkOk.bits8 (fun HT_ HW_ => ?_)
            generalize wc.drew = w34 at HO_6 HO_642001 BK641 HB HR648 hHeld ⊢
            refine pu_ 1 46 z9_1 HT_.out ?_
            refine pu_ 2 47 z9_2 HT_.out ?_
            refine pu_ 3 48 z9_3 HT_.out ?_
            refine tk_ 0 45 z9_4 HT_.out HW_.out hHeld ?_
            refine one_ (i := 4) (N := some 49) z9_5 rfl rfl (one_of HT_.out (by kernel_rfl)) (by decide) (fun K hK => ?_)
            refine goes_ Try.func43 (by kernel_rfl) rfl #[.agg #[.int .i64 t634, .slice Ao12 t635.length co12], .slice Ao13 y645.length co13] (by rfl) rfl rfl na_ ?_
            with_reducible refine (impl_WalkOk.calls kj7 t634 _ _ t635 _ _ y645 true _ ?side1 ?side2 ?side3 ?side4 A29.out).mono ?_
            (case side1 => exact nc_ (rR9 HO_642001.out).2.2)
            (case side2 => exact (rR9 HO_642001.out).2.1)
            (case side3 => repeat (first | exact (by repeat (first | (with_reducible exact HR648.out) | (with_reducible refine Kd.C_alloc ?_ _) | (with_reducible refine Kd.C_drewN ?_ _) | (with_reducible refine Kd.C_drew ?_) | exact HR648.out)) | (with_reducible refine Kd.C_alloc ?_ _) | (with_reducible refine Kd.C_drewN ?_ _) | (with_reducible refine Kd.C_drew ?_)))
            (case side4 => exact HC648.out)
            rintro e w36 ⟨rfl, hb⟩
            refine ⟨_, rfl, ?_⟩
            have n0_ := Aside0.mk (Kd.R_below (nr_ HO_6.out) hb)
            have n1_ := Aside0.mk (Kd.R_below (nr_ HO_642001.out) hb)
            have n2_ := Aside0.mk (blk_below (g := gb641) (o := .cells #[.int .i64 t634, .slice Ao12 t635.length co12] 29 (0, 0)) (nb_ BK641.out) hb)
            have n3_ := Aside0.mk (Kd.C_below (by repeat (first | (with_reducible exact HR648.out) | (with_reducible refine Kd.C_alloc ?_ _) | (with_reducible refine Kd.C_drewN ?_ _) | (with_reducible refine Kd.C_drew ?_) | exact HR648.out)) hb)
            have n4_ := Aside0.mk (below_step (ne_ HB.out) hb)
            clear HO_6
            clear HO_642001
            clear BK641
            clear HR648
            clear HB
            have HO_6 := n0_
            have HO_642001 := n1_
            have BK641 := n2_
            have HR648 := n3_
            have HB := n4_
            clear n0_ n1_ n2_ n3_ n4_
            (try clear hb)
            (try clear hb2)
            (try clear hk)
            (try clear hi)
            have q37 : ((ji26) : Int) ≤ ((t638.length : Int) : Int) := of_decide_eq_true nx_
            obtain ⟨i037, hi037, _, hsz37, _⟩ := info_parts info3
            have hroom37 : t638.length ≤ co13 := (rR9 HO_6.out).2.1
            have hC37 : Kd.C (Kd.int .i64) _ Ao13 t638.length t638 := (rR9 HO_6.out).2.2
            have q037 : (0 : Int) ≤ ((ji26) : Int) := of_decide_eq_true nx_
            have hcut37 := cut_from (P := Try.prog) 41 3 .i64 Try.underlying41 hi037 1 hsz37 Ao13 t638.length co13 (ji26) q037 q37
            have hr37 := Kd.C_drop (m := ((ji26) : Int).toNat) (c := co13) hC37 (by omega) hroom37
            obtain ⟨A37, hA37⟩ : ∃ A1, A1 = (if co13 = ((ji26) : Int).toNat then Ao13 else (Ao13 : Option Addr).map (·.add (((ji26) : Int).toNat * 1))) := ⟨_, rfl⟩
            obtain ⟨c37, hc37⟩ : ∃ c1, c1 = co13 - ((ji26) : Int).toNat := ⟨_, rfl⟩
            have hy37 : y650.length = t638.length - ((ji26) : Int).toNat := (by rw [Ny650.out, List.length_drop] <;> omega)
            rw [show (t638).drop ((ji26) : Int).toNat = y650 from Ny650.out.symm] at hr37
            replace hr37 : Kd.C (Kd.int .i64) _ A37 y650.length y650 := (by rw [hA37]; exact hr37)
            rw [← hy37, ← hA37, ← hc37] at hcut37
            have HR653 := Aside0.mk hr37
            have HC653 := Aside0.mk (show y650.length ≤ c37 from by rw [hy37, hc37]; exact Nat.sub_le_sub_right hroom37 _)
            clear hr37 hC37 hroom37 hi037 hsz37 hc37
            have KY37 := Aside0.mk hy37
            have KA37 := Aside0.mk hA37
            clear hy37 hA37
            have KL37 := Aside0.mk (show ((ji26) : Int).toNat ≤ t638.length from by omega)
            replace q37 := eq_true q37
            refine hK.out _ _ ⟨(blk_cell BK641.out 0).trans rfl, (blk_cell BK641.out 1).trans rfl⟩ (fun hHeld => ?_)
            clear hK K
            refine norm_ (a' := ?_) ?_ ?_
            rotate_left
            ·show Act.put _ (some 49) _ = _
             simp only [Act.put, List.setIfInBounds_toArray, List.set_cons_zero, List.set_cons_succ, i64_w, i32_w]
             rfl
            refine pu_ 5 50 z9_6 HT_.out ?_
            refine pu_ 7 52 #[true, true, true, true, true, true, false, true, false, false, false, false, false] HT_.out ?_
            refine pu_ 8 53 #[true, true, true, true, true, true, false, true, true, false, false, false, false] HT_.out ?_
            refine pu_ 9 54 #[true, true, true, true, true, true, false, true, true, true, false, false, false] HT_.out ?_
            refine tk_ 6 51 z9_7 HT_.out HW_.out hHeld ?_
            refine one_ (i := 10) (N := some 55) z9_8 rfl rfl (one_of HT_.out (by kernel_rfl)) (by decide) (fun K hK => ?_)
            refine goes_ Try.func43 (by kernel_rfl) rfl #[.agg #[.int .i64 t634, .slice Ao12 t635.length co12], .slice A37 y650.length c37] (by rfl) rfl rfl na_ ?_
            with_reducible refine (impl_WalkOk.calls kj7 t634 _ _ t635 _ _ y650 t654 _ ?side1 ?side2 ?side3 ?side4 A33.out).mono ?_
            (case side1 => exact nc_ (rR9 HO_642001.out).2.2)
            (case side2 => exact (rR9 HO_642001.out).2.1)
            (case side3 => repeat (first | exact (by repeat (first | (with_reducible exact HR653.out) | (with_reducible refine Kd.C_alloc ?_ _) | (with_reducible refine Kd.C_drewN ?_ _) | (with_reducible refine Kd.C_drew ?_) | exact HR653.out)) | (with_reducible refine Kd.C_alloc ?_ _) | (with_reducible refine Kd.C_drewN ?_ _) | (with_reducible refine Kd.C_drew ?_)))
            (case side4 => exact HC653.out)
            rintro e w38 ⟨rfl, hb⟩
            refine ⟨_, rfl, ?_⟩
            have n0_ := Aside0.mk (Kd.R_below (nr_ HO_6.out) hb)
            have n1_ := Aside0.mk (Kd.R_below (nr_ HO_642001.out) hb)
            have n2_ := Aside0.mk (blk_below (g := gb641) (o := .cells #[.int .i64 t634, .slice Ao12 t635.length co12] 29 (0, 0)) (nb_ BK641.out) hb)
            have n3_ := Aside0.mk (Kd.C_below (by repeat (first | (with_reducible exact HR648.out) | (with_reducible refine Kd.C_alloc ?_ _) | (with_reducible refine Kd.C_drewN ?_ _) | (with_reducible refine Kd.C_drew ?_) | exact HR648.out)) hb)
            have n4_ := Aside0.mk (Kd.C_below (by repeat (first | (with_reducible exact HR653.out) | (with_reducible refine Kd.C_alloc ?_ _) | (with_reducible refine Kd.C_drewN ?_ _) | (with_reducible refine Kd.C_drew ?_) | exact HR653.out)) hb)
            have n5_ := Aside0.mk (below_step (ne_ HB.out) hb)
            clear HO_6
            clear HO_642001
            clear BK641
            clear HR648
            clear HR653
            clear HB
            have HO_6 := n0_
            have HO_642001 := n1_
            have BK641 := n2_
            have HR648 := n3_
            have HR653 := n4_
            have HB := n5_
            clear n0_ n1_ n2_ n3_ n4_ n5_
            (try clear hb)
            (try clear hb2)
            (try clear hk)
            (try clear hi)
            refine hK.out _ _ ⟨(blk_cell BK641.out 0).trans rfl, (blk_cell BK641.out 1).trans rfl⟩ (fun hHeld => ?_)
            clear hK K
            refine norm_ (a' := ?_) ?_ ?_
            rotate_left
            ·show Act.put _ (some 55) _ = _
             simp only [Act.put, List.setIfInBounds_toArray, List.set_cons_zero, List.set_cons_succ, i64_w, i32_w]
             rfl
            refine pu_ 11 56 z9_9 HT_.out ?_
            refine pu_ 12 4 z9_10 HT_.out ?_
            refine done_ (done_of HT_.out (by kernel_rfl)) ?_
            try go_wp2
            go_ret
            exact ⟨by first | rfl | (simp [errW_none, errW_some] <;> rfl) | (simp only [← hji26]; first | rfl | (simp [errW_none, errW_some] <;> rfl)) | (simp [*, errW_none, errW_some] <;> rfl), by repeat (first | (with_reducible first | exact HB.out | apply below_alloc | apply pw_below_drewN | apply below_drew1 | refine below_set ?_ GE641.out) | exact HB.out)⟩
           ·replace c30 := Bool.eq_false_iff.mpr c30
            subst c30
            have H1 : (some false) = some r := by rw [if_neg (show ¬ (false = true) by decide)] at H; exact H
            clear H
            have H := H1
            clear H1
            obtain rfl := Option.some.inj H
            try go_wp2
            have n0_ := Aside0.mk (Kd.R_drew HO_6.out)
            have n1_ := Aside0.mk (Kd.R_drew HO_642001.out)
            have n2_ := Aside0.mk (blk_drew BK641.out)
            have n3_ := Aside0.mk (below_drew1 HB.out)
            clear HO_6
            clear HO_642001
            clear BK641
            clear HB
            have HO_6 := n0_
            have HO_642001 := n1_
            have BK641 := n2_
            have HB := n3_
            clear n0_ n1_ n2_ n3_
            have q40 : ((ji26) : Int) ≤ ((t638.length : Int) : Int) := of_decide_eq_true nx_
            obtain ⟨i040, hi040, _, hsz40, _⟩ := info_parts info3
            have hroom40 : t638.length ≤ co13 := (rR9 HO_6.out).2.1
            have hC40 : Kd.C (Kd.int .i64) _ Ao13 t638.length t638 := (rR9 HO_6.out).2.2
            have hcut40 := cut_to (P := Try.prog) 41 3 .i64 Try.underlying41 hi040 Ao13 t638.length co13 (ji26) (of_decide_eq_true nx_) q40 hroom40
            have hr40 := Kd.C_take (m := ((ji26) : Int).toNat) hC40 (by omega)
            have hy40 : y645.length = ((ji26) : Int).toNat := (by rw [Ny645.out, List.length_take]; omega)
            rw [← Ny645.out] at hr40
            rw [← hy40] at hcut40
            have HR648 := Aside0.mk hr40
            have HC648 := Aside0.mk (show y645.length ≤ co13 from by omega)
            clear hr40 hC40 hroom40 hi040 hsz40
            have KY40 := Aside0.mk hy40
            clear hy40
            have KL40 := Aside0.mk (show ((ji26) : Int).toNat ≤ t638.length from by omega)
            replace q40 := eq_true q40
            refine start_ (n := 13) (S := fun w' => w'.cell? ⟨gb641, 0, none⟩ = some (.int .i64 t634) ∧ w'.cell? ⟨gb641, 1, none⟩ = some (.slice Ao12 t635.length co12)) (ds := []) z9_0 (by kernel_rfl) rfl rfl ⟨(blk_cell BK641.out 0).trans rfl, (blk_cell BK641.out 1).trans rfl⟩ (fun hHeld => ?_); refine with_tabW laws_FnWalkOk.tab8 laws_FnWalkOk.bits8 (fun HT_ HW_ => ?_)
            generalize wc.drew = w39 at HO_6 HO_642001 BK641 HB HR648 hHeld ⊢
            refine pu_ 1 46 z9_1 HT_.out ?_
            refine pu_ 2 47 z9_2 HT_.out ?_
            refine pu_ 3 48 z9_3 HT_.out ?_
            refine tk_ 0 45 z9_4 HT_.out HW_.out hHeld ?_
            refine one_ (i := 4) (N := some 49) z9_5 rfl rfl (one_of HT_.out (by kernel_rfl)) (by decide) (fun K hK => ?_)
            refine goes_ Try.func43 (by kernel_rfl) rfl #[.agg #[.int .i64 t634, .slice Ao12 t635.length co12], .slice Ao13 y645.length co13] (by rfl) rfl rfl na_ ?_
            with_reducible refine (impl_WalkOk.calls kj7 t634 _ _ t635 _ _ y645 false _ ?side1 ?side2 ?side3 ?side4 A29.out).mono ?_
            (case side1 => exact nc_ (rR9 HO_642001.out).2.2)
            (case side2 => exact (rR9 HO_642001.out).2.1)
            (case side3 => repeat (first | exact (by repeat (first | (with_reducible exact HR648.out) | (with_reducible refine Kd.C_alloc ?_ _) | (with_reducible refine Kd.C_drewN ?_ _) | (with_reducible refine Kd.C_drew ?_) | exact HR648.out)) | (with_reducible refine Kd.C_alloc ?_ _) | (with_reducible refine Kd.C_drewN ?_ _) | (with_reducible refine Kd.C_drew ?_)))
            (case side4 => exact HC648.out)
            rintro e w41 ⟨rfl, hb⟩
            refine ⟨_, rfl, ?_⟩
            have n0_ := Aside0.mk (Kd.R_below (nr_ HO_6.out) hb)
            have n1_ := Aside0.mk (Kd.R_below (nr_ HO_642001.out) hb)
            have n2_ := Aside0.mk (blk_below (g := gb641) (o := .cells #[.int .i64 t634, .slice Ao12 t635.length co12] 29 (0, 0)) (nb_ BK641.out) hb)
            have n3_ := Aside0.mk (Kd.C_below (by repeat (first | (with_reducible exact HR648.out) | (with_reducible refine Kd.C_alloc ?_ _) | (with_reducible refine Kd.C_drewN ?_ _) | (with_reducible refine Kd.C_drew ?_) | exact HR648.out)) hb)
            have n4_ := Aside0.mk (below_step (ne_ HB.out) hb)
            clear HO_6
            clear HO_642001
            clear BK641
            clear HR648
            clear HB
            have HO_6 := n0_
            have HO_642001 := n1_
            have BK641 := n2_
            have HR648 := n3_
            have HB := n4_
            clear n0_ n1_ n2_ n3_ n4_
            (try clear hb)
            (try clear hb2)
            (try clear hk)
            (try clear hi)
            refine hK.out _ _ ⟨(blk_cell BK641.out 0).trans rfl, (blk_cell BK641.out 1).trans rfl⟩ (fun hHeld => ?_)
            clear hK K
            refine norm_ (a' := ?_) ?_ ?_
            rotate_left
            ·show Act.put _ (some 49) _ = _
             simp only [Act.put, List.setIfInBounds_toArray, List.set_cons_zero, List.set_cons_succ, i64_w, i32_w]
             rfl
            refine pu_ 5 50 z9_6 HT_.out ?_
            refine un_ 6 51 #[true, true, true, true, true, true, true, false, false, false, false, false, false] HT_.out ?_
            refine un_ 7 52 #[true, true, true, true, true, true, true, true, false, false, false, false, false] HT_.out ?_
            refine un_ 8 53 #[true, true, true, true, true, true, true, true, true, false, false, false, false] HT_.out ?_
            refine un_ 9 54 z9_7 HT_.out ?_
            refine un_ 10 55 z9_8 HT_.out ?_
            refine pu_ 11 56 z9_9 HT_.out ?_
            refine pu_ 12 4 z9_10 HT_.out ?_
            refine done_ (done_of HT_.out (by kernel_rfl)) ?_
            try go_wp2
            go_ret
            exact ⟨by first | rfl | (simp [errW_none, errW_some] <;> rfl) | (simp only [← hji26]; first | rfl | (simp [errW_none, errW_some] <;> rfl)) | (simp [*, errW_none, errW_some] <;> rfl), by repeat (first | (with_reducible first | exact HB.out | apply below_alloc | apply pw_below_drewN | apply below_drew1 | refine below_set ?_ GE641.out) | exact HB.out)⟩
          ·rw [if_neg c28] at H
           exact absurd H (by simp)
         ·rw [if_neg c27] at H
          exact absurd H (by simp)

/-- THE ONE PURE STATEMENT of laws_FnWalkOk: yours. -/
def laws_FnWalkOk.Pure : Prop := ∀ (l0 : List Int) (l1 : List Int), l0.length ≤ maxLen → l0.length * 1 ≤ 140737488351232 → (∀ x ∈ l0, (Lit.int .u8 x).wf = true) → l1.length ≤ maxLen → l1.length * 1 ≤ 140737488351232 → (∀ x ∈ l1, (Lit.int .u8 x).wf = true) → ∃ k, laws_FnWalkOk.f k l0 l1 = some true
theorem laws_FnWalkOk.walk (P : laws_FnWalkOk.Pure) (a0 : Option Addr) (len0 cap0 : Nat) (z0 : List Int) (a1 : Option Addr) (len1 cap1 : Nat) (z1 : List Int) (w : World) (w0 : (a0 = none ∧ len0 = 0 ∧ cap0 = 0 ∧ z0 = []) ∨ ∃ x, a0 = some x ∧ len0 ≤ cap0 ∧ cap0 ≤ maxLen ∧ z0.length = cap0 ∧ (∀ i, i < z0.length → w.cell? (x.add i) = some (.int .u8 (z0.getD i 0))) ∧ ∀ n ∈ z0, (Lit.int .u8 n).wf = true) (y0 : len0 * 1 ≤ 140737488351232) (w1 : (a1 = none ∧ len1 = 0 ∧ cap1 = 0 ∧ z1 = []) ∨ ∃ x, a1 = some x ∧ len1 ≤ cap1 ∧ cap1 ≤ maxLen ∧ z1.length = cap1 ∧ (∀ i, i < z1.length → w.cell? (x.add i) = some (.int .u8 (z1.getD i 0))) ∧ ∀ n ∈ z1, (Lit.int .u8 n).wf = true) (y1 : len1 * 1 ≤ 140737488351232) :
    Calls Try.prog 9 #[.slice a0 len0 cap0, .slice a1 len1 cap1] w fun e w' => e = .returned (.bool true) ∧ Below w.heap.size w w' := by
  obtain ⟨l0, rfl, hr0, hm0, hw0, hc0⟩ := ReadsInt.ofRowC w0
  obtain ⟨l1, rfl, hr1, hm1, hw1, hc1⟩ := ReadsInt.ofRowC w1
  obtain ⟨k, h⟩ := P l0 l1 hm0 y0 hw0 hm1 y1 hw1
  refine (laws_FnWalkOk.calls k _ _ l0 _ _ l1 true w (Kd.C_of_reads (d := (0 : Int)) (h1 := fun _ => rfl) hr0) hc0 (Kd.C_of_reads (d := (0 : Int)) (h1 := fun _ => rfl) hr1) hc1 h).mono ?_
  rintro e w' ⟨rfl, hd⟩
  exact ⟨rfl, hd⟩

end Go.Proofs.Ytpjmkghmjpbldaa.Print
