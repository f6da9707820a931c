-- Made by this session's own program (wip/patch_print.py, over the kit's print). Lean checks it.
import Derived.Test.YtpjmkghmjpbldaaPrint0
import Derived.Test.YtpjmkghmjpbldaaPrintF43
import Derived.Test.YtpjmkghmjpbldaaPrintF46
import Derived.Test.YtpjmkghmjpbldaaPrintF47
import Derived.Test.YtpjmkghmjpbldaaPrintF48
namespace Go.Proofs.Ytpjmkghmjpbldaa.Print
open Go.RowKit Go.Proofs.YtpjmkghmjpbldaaW.PrintWords Go.Proofs.YtpjmkghmjpbldaaW.PrintLast Go.Proofs.YtpjmkghmjpbldaaW.PrintMore Go.Proofs.YtpjmkghmjpbldaaX
attribute [local go_sem] max2_int min2_int max_two min_two max_three min_three max_four min_four   -- for this text's walks alone
set_option linter.unusedVariables false
set_option linter.unusedSimpArgs false

abbrev z11_0 : Array Bool := #[false, false, false, false, false, false, false, false, false, false, false, false, false, false, false, false, false, false, false]
abbrev z11_1 : Array Bool := #[false, true, false, false, false, false, false, false, false, false, false, false, false, false, false, false, false, false, false]
abbrev z11_2 : Array Bool := #[true, true, false, false, false, false, false, false, false, false, false, false, false, false, false, false, false, false, false]
abbrev z11_3 : Array Bool := #[true, true, true, false, false, false, false, false, false, false, false, false, false, false, false, false, false, false, false]
abbrev z11_4 : Array Bool := #[true, true, true, true, false, false, false, false, false, false, false, false, false, false, false, false, false, false, false]
abbrev z11_5 : Array Bool := #[true, true, true, true, true, true, true, true, true, true, true, true, true, true, true, true, false, false, false]
abbrev z11_6 : Array Bool := #[true, true, true, true, true, true, true, true, true, true, true, true, true, true, true, true, true, false, false]
abbrev z11_7 : Array Bool := #[true, true, true, true, true, true, true, true, true, true, true, true, true, true, true, true, true, true, false]
abbrev z11_8 : Array Bool := #[true, true, true, true, true, true, true, true, true, true, true, true, true, true, true, true, true, true, true]
abbrev rR11 := @Kd.R_reads'
/-! ### laws_FnWalkCost: function 11 -/
mutual
def laws_FnWalkCost.j0 : Nat → List Int → List Int → Bool → Option (Bool)
  | 0, _, _, _ => none
  | k + 1, x0, x1, x16 => if x16 = true then (some true) else ((spec_DrawWalkCost.f k x0).bind fun bt709 => ((impl_WalkCost.f k bt709.1 bt709.2.1 bt709.2.2).bind fun t717 => ((spec_WalkCost.f k bt709.1 bt709.2.1 bt709.2.2).bind fun t718 => (if t717 = t718 then (laws_FnWalkCost.j1 k x1 bt709.2.2 t717 (decide (t717 < 0)) bt709.1 bt709.2.1) else (laws_FnWalkCost.j1 k x1 bt709.2.2 t717 true bt709.1 bt709.2.1)))))
def laws_FnWalkCost.j1 : Nat → List Int → List Int → Int → Bool → Int → List (S37) → Option (Bool)
  | 0, _, _, _, _, _, _ => none
  | k + 1, x1, x6, x7, x33, x717000, x717001 => if x33 = true then ((spec_WalkCost.f k x717000 x717001 x6).bind fun t719 => (if x7 = t719 then ((impl_WalkOk.f k x717000 x717001 x6).bind fun t720 => (some (!t720))) else (some false))) else (if (wrap64 ((x6.length : Int) + 1)) = 0 then (none) else ((impl_WalkOk.f k x717000 x717001 x6).bind fun t721 => (if t721 = true then (if 0 ≤ ((x1.length : Int) % (wrap64 ((x6.length : Int) + 1))) then (if ((x1.length : Int) % (wrap64 ((x6.length : Int) + 1))) ≤ (x6.length : Int) then ((impl_WalkCost.f k x717000 x717001 (x6.take (((x1.length : Int) % (wrap64 ((x6.length : Int) + 1))) : Int).toNat)).bind fun t726 => ((impl_WalkCost.f k x717000 x717001 (x6.drop (((x1.length : Int) % (wrap64 ((x6.length : Int) + 1))) : Int).toNat)).bind fun t731 => (some ((wrap64 (t726 + t731)) == x7)))) else (none)) else (none)) else (some false))))
end
def laws_FnWalkCost.f (k : Nat) (l0 : List Int) (l1 : List Int) : Option (Bool) := if (l0.length : Int) > 1048576 then (laws_FnWalkCost.j0 k l0 l1 true) else (laws_FnWalkCost.j0 k l0 l1 (decide ((l1.length : Int) > 1048576)))
theorem laws_FnWalkCost.mono_l : ∀ k, (∀ y0 y1 y2, LeO (laws_FnWalkCost.j0 k y0 y1 y2) (laws_FnWalkCost.j0 (k + 1) y0 y1 y2)) ∧ (∀ y0 y1 y2 y3 y4 y5, LeO (laws_FnWalkCost.j1 k y0 y1 y2 y3 y4 y5) (laws_FnWalkCost.j1 (k + 1) y0 y1 y2 y3 y4 y5))
  | 0 => ⟨fun _ _ _ r h => by simp [laws_FnWalkCost.j0] at h, fun _ _ _ _ _ _ r h => by simp [laws_FnWalkCost.j1] at h⟩
  | k + 1 => by
    obtain ⟨ih0, ih1⟩ := laws_FnWalkCost.mono_l k
    refine ⟨?_, ?_⟩
    · intro y0 y1 y2
      unfold laws_FnWalkCost.j0
      repeat' first
      | (with_reducible exact ih0 _ _ _)
      | (with_reducible exact ih1 _ _ _ _ _ _)
      | (with_reducible exact impl_WalkCost.mono _ _ _ _)
      | (with_reducible exact impl_WalkOk.mono _ _ _ _)
      | (with_reducible exact spec_DrawWalkCost.mono _ _)
      | (with_reducible exact spec_WalkCost.mono _ _ _ _)
      | (with_reducible exact LeO.refl _)
      | (with_reducible exact LeO.none _)
      | (with_reducible refine LeO.ite ?_ ?_)
      | (with_reducible refine LeO.bind ?_ (fun _ => ?_))
      | exact ih0 _ _ _
      | exact ih1 _ _ _ _ _ _
      | exact impl_WalkCost.mono _ _ _ _
      | exact impl_WalkOk.mono _ _ _ _
      | exact spec_DrawWalkCost.mono _ _
      | exact spec_WalkCost.mono _ _ _ _
      | exact LeO.none _
      | refine LeO.ite ?_ ?_
      | refine LeO.bind ?_ (fun _ => ?_)
    · intro y0 y1 y2 y3 y4 y5
      unfold laws_FnWalkCost.j1
      repeat' first
      | (with_reducible exact ih0 _ _ _)
      | (with_reducible exact ih1 _ _ _ _ _ _)
      | (with_reducible exact impl_WalkCost.mono _ _ _ _)
      | (with_reducible exact impl_WalkOk.mono _ _ _ _)
      | (with_reducible exact spec_DrawWalkCost.mono _ _)
      | (with_reducible exact spec_WalkCost.mono _ _ _ _)
      | (with_reducible exact LeO.refl _)
      | (with_reducible exact LeO.none _)
      | (with_reducible refine LeO.ite ?_ ?_)
      | (with_reducible refine LeO.bind ?_ (fun _ => ?_))
      | exact ih0 _ _ _
      | exact ih1 _ _ _ _ _ _
      | exact impl_WalkCost.mono _ _ _ _
      | exact impl_WalkOk.mono _ _ _ _
      | exact spec_DrawWalkCost.mono _ _
      | exact spec_WalkCost.mono _ _ _ _
      | exact LeO.none _
      | refine LeO.ite ?_ ?_
      | refine LeO.bind ?_ (fun _ => ?_)
theorem laws_FnWalkCost.mono : ∀ a0 a1 k, LeO (laws_FnWalkCost.f k a0 a1) (laws_FnWalkCost.f (k + 1) a0 a1) := by
  intro a0 a1 k
  obtain ⟨ih0, ih1⟩ := laws_FnWalkCost.mono_l k
  unfold laws_FnWalkCost.f
  repeat' first
      | (with_reducible exact ih0 _ _ _)
      | (with_reducible exact ih1 _ _ _ _ _ _)
      | (with_reducible exact impl_WalkCost.mono _ _ _ _)
      | (with_reducible exact impl_WalkOk.mono _ _ _ _)
      | (with_reducible exact spec_DrawWalkCost.mono _ _)
      | (with_reducible exact spec_WalkCost.mono _ _ _ _)
      | (with_reducible exact LeO.refl _)
      | (with_reducible exact LeO.none _)
      | (with_reducible refine LeO.ite ?_ ?_)
      | (with_reducible refine LeO.bind ?_ (fun _ => ?_))
      | exact ih0 _ _ _
      | exact ih1 _ _ _ _ _ _
      | exact impl_WalkCost.mono _ _ _ _
      | exact impl_WalkOk.mono _ _ _ _
      | exact spec_DrawWalkCost.mono _ _
      | exact spec_WalkCost.mono _ _ _ _
      | exact LeO.none _
      | refine LeO.ite ?_ ?_
      | refine LeO.bind ?_ (fun _ => ?_)
def laws_FnWalkCost.T8 : Bool × List (List Nat × List Nat) := (true, [([], []), ([], []), ([0, 1], [0, 1]), ([2, 2], [2]), ([3], [3]), ([3], [3]), ([3], [3]), ([5, 6, 3], [3, 5, 6]), ([4, 7, 3, 3], [3, 4, 7]), ([3], [3]), ([3], [3]), ([3], [3]), ([10, 11, 3], [3, 10, 11]), ([9, 12, 8, 3], [3, 9, 12]), ([8, 13, 3], [3, 8, 13]), ([3], [3]), ([14, 15, 3], [3, 14, 15]), ([3, 16], [3, 16]), ([17, 13, 0, 1, 2, 3, 4, 5, 6, 7, 8, 9, 10, 11, 12, 13, 14, 15, 16, 17], [17])])
def laws_FnWalkCost.B8 : List Nat := [0, 0, 3, 7, 15, 15, 15, 111, 255, 15, 15, 15, 3087, 8191, 16383, 15, 65535, 131071, 262143]
theorem laws_FnWalkCost.tab8 : rtab .any (opsOf Try.f11 8) = laws_FnWalkCost.T8 := by kernel_rfl
theorem laws_FnWalkCost.bits8 : waitsOk laws_FnWalkCost.T8.2 laws_FnWalkCost.B8 = true := by kernel_rfl
set_option maxHeartbeats 8000000 in
set_option maxRecDepth 100000 in
theorem laws_FnWalkCost.calls (k : Nat) (A0 : Option Addr) (c0 : Nat) (l0 : List Int) (A1 : Option Addr) (c1 : Nat) (l1 : List Int) (r : Bool) (w : World) (hr0 : Kd.C (Kd.int .u8) w A0 l0.length l0) (hc0 : l0.length ≤ c0) (hr1 : Kd.C (Kd.int .u8) w A1 l1.length l1) (hc1 : l1.length ≤ c1) (h : laws_FnWalkCost.f k l0 l1 = some r) :
    Calls Try.prog 11 #[.slice A0 l0.length c0, .slice A1 l1.length c1] w fun e w' => e = .returned (.bool r) ∧ Below w.heap.size w w' := by
  have hu29 := Try.underlying29
  have HR0 := Aside0.mk hr0
  have HC0 := Aside0.mk hc0
  clear hr0 hc0
  have HR1 := Aside0.mk hr1
  have HC1 := Aside0.mk hc1
  clear hr1 hc1
  have HB := Aside0.mk (Below.refl w.heap.size w)
  have H : (if (l0.length : Int) > 1048576 then (laws_FnWalkCost.j0 k l0 l1 true) else (laws_FnWalkCost.j0 k l0 l1 (decide ((l1.length : Int) > 1048576)))) = some r := h
  clear h
  have HC3 := Aside0.mk H
  clear H
  go_enter Try.func11, Try.ntmps11
  go_upto_region 1 with (fail)
  go_cut [16] (fun v16 wc => ∃ (kq : Nat) (x16_2 : Bool), v16 = .bool x16_2 ∧ Aside0 (laws_FnWalkCost.j0 kq l0 l1 x16_2 = some r) ∧ Aside0 (kq ≤ k) ∧ Aside0 (Below w.heap.size w wc))
  case first =>
   have H := HC3.out
   clear HC3
   by_cases c4 : (l0.length : Int) > 1048576
   ·rw [if_pos c4] at H
    have c4b0 : decide (1048576 < (l0.length : Int)) = true := decide_eq_true c4
    have c4b1 : decide (1048576 < l0.length) = true := decide_eq_true (by omega)
    clear c4
    (first | rw [c4b0] | (simp only [i64_w, i32_w]; rw [c4b0]) | skip)
    have H' := Aside0.mk H
    clear H
    go_wp2
    go_meet
    case rel => exact ⟨_, (true), ns_, H', ⟨by first | omega | exact Nat.le_refl _⟩, ⟨by repeat (first | (with_reducible first | exact HB.out | apply below_alloc | apply pw_below_drewN | apply below_drew1) | exact HB.out)⟩⟩
   ·rw [if_neg c4] at H
    have c4b0 : decide (1048576 < (l0.length : Int)) = false := decide_eq_false c4
    have c4b1 : decide (1048576 < l0.length) = false := decide_eq_false (by omega)
    clear c4
    (first | rw [c4b0] | (simp only [i64_w, i32_w]; rw [c4b0]) | skip)
    have H' := Aside0.mk H
    clear H
    go_wp2
    go_meet
    case rel => exact ⟨_, (decide ((l1.length : Int) > 1048576)), ns_, H', ⟨by first | omega | exact Nat.le_refl _⟩, ⟨by repeat (first | (with_reducible first | exact HB.out | apply below_alloc | apply pw_below_drewN | apply below_drew1) | exact HB.out)⟩⟩
  case rest =>
   clear HC3
   try clear c1
   try clear p2
   try clear c4
   try clear c4b0
   try clear c4b1
   obtain ⟨kq, x16_2, rfl, HA, HJ2, HB⟩ := hcut
   cases kq with
   | zero => exact absurd HA.out (by simp [laws_FnWalkCost.j0])
   | succ kj2 =>
    have H := HA.out
    clear HA
    simp only [laws_FnWalkCost.j0] at H
    by_cases c5 : x16_2 = true
    ·subst c5
     have H1 : (some true) = some r := by rw [if_pos rfl] at H; exact H
     clear H
     have H := H1
     clear H1
     obtain rfl := Option.some.inj H
     go_wp2
     go_ret
     exact ⟨by first | rfl | (simp [errW_none, errW_some] <;> rfl) | (simp [*, errW_none, errW_some] <;> rfl), by repeat (first | (with_reducible first | exact HB.out | apply below_alloc | apply pw_below_drewN | apply below_drew1) | exact HB.out)⟩
    ·replace c5 := Bool.eq_false_iff.mpr c5
     subst c5
     have H1 : ((spec_DrawWalkCost.f kj2 l0).bind fun bt709 => ((impl_WalkCost.f kj2 bt709.1 bt709.2.1 bt709.2.2).bind fun t717 => ((spec_WalkCost.f kj2 bt709.1 bt709.2.1 bt709.2.2).bind fun t718 => (if t717 = t718 then (laws_FnWalkCost.j1 kj2 l1 bt709.2.2 t717 (decide (t717 < 0)) bt709.1 bt709.2.1) else (laws_FnWalkCost.j1 kj2 l1 bt709.2.2 t717 true bt709.1 bt709.2.1))))) = some r := by rw [if_neg (show ¬ (false = true) by decide)] at H; exact H
     clear H
     have H := H1
     clear H1
     replace H := Option.bind_eq_some_iff.mp H
     obtain ⟨⟨t709, t710, t713⟩, A60, H⟩ := H
     replace H : ((impl_WalkCost.f kj2 t709 t710 t713).bind fun t717 => ((spec_WalkCost.f kj2 t709 t710 t713).bind fun t718 => (if t717 = t718 then (laws_FnWalkCost.j1 kj2 l1 t713 t717 (decide (t717 < 0)) t709 t710) else (laws_FnWalkCost.j1 kj2 l1 t713 t717 true t709 t710)))) = some r := H
     have A6 := Aside0.mk A60
     clear A60
     replace H := Option.bind_eq_some_iff.mp H
     obtain ⟨t717, A70, H⟩ := H
     replace H : ((spec_WalkCost.f kj2 t709 t710 t713).bind fun t718 => (if t717 = t718 then (laws_FnWalkCost.j1 kj2 l1 t713 t717 (decide (t717 < 0)) t709 t710) else (laws_FnWalkCost.j1 kj2 l1 t713 t717 true t709 t710))) = some r := H
     have A7 := Aside0.mk A70
     clear A70
     have HC8 := Aside0.mk H
     clear H
     go_upto_region 5 with (first | ((with_reducible refine gate_callee (f := 46) rfl ?_); refine goesL_ (some 19) rfl rfl Try.func46 (by kernel_rfl) rfl #[.slice A0 l0.length c0] rfl na_ ?_; (with_reducible refine (spec_DrawWalkCost.calls kj2 _ _ l0 t709 t710 t713 _ ?side1 ?side2 A6.out).mono ?_); (case side1 => exact nc_ (Kd.C_below HR0.out HB.out)); (case side2 => exact HC0.out); rintro e w9 ⟨v711, v714, rfl, ho0, ho1, hb⟩; refine ⟨_, rfl, ?_⟩; have n0_ := Aside0.mk (Kd.R_lower ho0 (below_size (ne_ HB.out))); have n1_ := Aside0.mk (Kd.R_lower ho1 (below_size (ne_ HB.out))); have n2_ := Aside0.mk (below_step (ne_ HB.out) hb); clear HB; have HO712 := n0_; have HO715 := n1_; have HB := n2_; clear n0_ n1_ n2_; (try clear hb); (try clear hb2); (try clear hk); (try clear hi); (try clear ho0); (try clear ho1)) | ((with_reducible refine gate_dst (N := 5) rfl ?_); (try (refine gate_guard (by rfl) ?_; dsimp only)); refine box_event ?hg (N := 5) ?hd (cs := #[.int .i64 0, .slice none 0 0]) (t := 29) ?hr ?_; (case hd => rfl); (case hg => rfl); (case hr => first | (go_simp; done) | (go_simp; rfl)); intro gb716 hg w10 hbox hb; have n0_ := Aside0.mk (Kd.R_below (nr_ HO712.out) hb); have n1_ := Aside0.mk (Kd.R_below (nr_ HO715.out) hb); have n2_ := Aside0.mk (below_step (ne_ HB.out) hb); have n3_ := Aside0.mk (hbox); have n4_ := Aside0.mk ((by rw [hg]; exact (below_size (ne_ HB.out)) : w.heap.size ≤ gb716)); have n5_ := Aside0.mk ((by rw [hg]; exact (below_size (ne_ HB.out)) : w.heap.size ≤ gb716)); clear HO712; clear HO715; clear HB; have HO712 := n0_; have HO715 := n1_; have HB := n2_; have BK716 := n3_; have GW716 := n4_; have GE716 := n5_; clear n0_ n1_ n2_ n3_ n4_ n5_; clear hb hbox hg; have hcz11_0 : w10.cell? ⟨gb716, 0, none⟩ = some (.int .i64 0) := (blk_cell BK716.out 0).trans rfl; have hcz11_1 : w10.cell? ⟨gb716, 1, none⟩ = some (.slice none 0 0) := (blk_cell BK716.out 1).trans rfl; have hfz11_0 := blk_frozen BK716.out 0; have hfz11_1 := blk_frozen BK716.out 1; obtain ⟨Ao12, co12, eo12⟩ := Kd.R_slice HO712.out; subst eo12; obtain ⟨Ao13, co13, eo13⟩ := Kd.R_slice HO715.out; subst eo13) | ((with_reducible refine gate_callee (f := 47) rfl ?_); refine goesL_ (some 24) rfl rfl Try.func47 (by kernel_rfl) rfl #[.agg #[.int .i64 t709, .slice Ao12 t710.length co12], .slice Ao13 t713.length co13] rfl na_ ?_; (with_reducible refine (impl_WalkCost.calls kj2 t709 _ _ t710 _ _ t713 t717 _ ?side1 ?side2 ?side3 ?side4 A7.out).mono ?_); (case side1 => refine (rR11 (e := 37) (base := w.heap.size) (ok := fun k_ => True) (n := t710.length) (c := co12) ?_).2.2; exact (by (with_reducible repeat (first | apply Kd.R_alloc | apply Kd.R_drewN | apply Kd.R_drew)); exact (Kd.R_mono (Kd.R_far (p := ⟨gb716, 1, none⟩) (Kd.R_far (p := ⟨gb716, 0, none⟩) (Kd.R_types HO712.out BK716.out (by decide)) (fun _ hk => hk.2) (.int .i64 t709)) (fun _ hk => hk.2) (.slice Ao12 t710.length co12)) (fun _ h_ => h_.1)))); (case side2 => exact (rR11 HO712.out).2.1); (case side3 => refine (rR11 (e := 3) (base := w.heap.size) (ok := fun k_ => True) (n := t713.length) (c := co13) ?_).2.2; exact (by (with_reducible repeat (first | apply Kd.R_alloc | apply Kd.R_drewN | apply Kd.R_drew)); exact (Kd.R_mono (Kd.R_far (p := ⟨gb716, 1, none⟩) (Kd.R_far (p := ⟨gb716, 0, none⟩) (Kd.R_types HO715.out BK716.out (by decide)) (fun _ hk => hk.2) (.int .i64 t709)) (fun _ hk => hk.2) (.slice Ao12 t710.length co12)) (fun _ h_ => h_.1)))); (case side4 => exact (rR11 HO715.out).2.1); rintro e w14 ⟨rfl, hb⟩; refine ⟨_, rfl, ?_⟩; have n0_ := Aside0.mk (Kd.R_below (by (with_reducible repeat (first | apply Kd.R_alloc | apply Kd.R_drewN | apply Kd.R_drew)); exact (Kd.R_mono (Kd.R_far (p := ⟨gb716, 1, none⟩) (Kd.R_far (p := ⟨gb716, 0, none⟩) (Kd.R_types HO712.out BK716.out (by decide)) (fun _ hk => hk.2) (.int .i64 t709)) (fun _ hk => hk.2) (.slice Ao12 t710.length co12)) (fun _ h_ => h_.1))) hb); have n1_ := Aside0.mk (Kd.R_below (by (with_reducible repeat (first | apply Kd.R_alloc | apply Kd.R_drewN | apply Kd.R_drew)); exact (Kd.R_mono (Kd.R_far (p := ⟨gb716, 1, none⟩) (Kd.R_far (p := ⟨gb716, 0, none⟩) (Kd.R_types HO715.out BK716.out (by decide)) (fun _ hk => hk.2) (.int .i64 t709)) (fun _ hk => hk.2) (.slice Ao12 t710.length co12)) (fun _ h_ => h_.1))) hb); have n2_ := Aside0.mk (blk_below (g := gb716) (o := .cells #[.int .i64 t709, .slice Ao12 t710.length co12] 29 (0, 0)) (by (with_reducible repeat (first | refine blk_drewN ?_ _ | refine blk_drew ?_ | refine blk_alloc ?_ _)); refine blk_put (cs := #[.int .i64 t709, .slice none 0 0]) ?_ 1 _ rfl; (with_reducible repeat (first | refine blk_drewN ?_ _ | refine blk_drew ?_ | refine blk_alloc ?_ _)); refine blk_put (cs := #[.int .i64 0, .slice none 0 0]) ?_ 0 _ rfl; (with_reducible repeat (first | refine blk_drewN ?_ _ | refine blk_drew ?_ | refine blk_alloc ?_ _)); exact BK716.out) hb); have n3_ := Aside0.mk (below_step (ne_ HB.out) hb); clear HO712; clear HO715; clear BK716; clear HB; have HO712 := n0_; have HO715 := n1_; have BK716 := n2_; have HB := n3_; clear n0_ n1_ n2_ n3_; (try clear hb); (try clear hb2); (try clear hk); (try clear hi)))
     (try simp only [Act.put, List.setIfInBounds_toArray, List.set_cons_zero, List.set_cons_succ])
     go_cut [33] (fun v33 wc => ∃ (kq : Nat) (x33_7 : Bool), v33 = .bool x33_7 ∧ Aside0 (laws_FnWalkCost.j1 kq l1 t713 t717 x33_7 t709 t710 = some r) ∧ Aside0 (kq ≤ kj2) ∧ Aside0 (Kd.R (Kd.int .i64) 3 wc w.heap.size (fun _ => True) (.slice Ao13 t713.length co13) t713) ∧ Aside0 (Kd.R k37 37 wc w.heap.size (fun _ => True) (.slice Ao12 t710.length co12) t710) ∧ Aside0 (wc.heap[gb716]? = some (.cells #[.int .i64 t709, (.slice Ao12 t710.length co12)] 29 (0, 0))) ∧ Aside0 (Below w.heap.size w wc))
     case first =>
      have H := HC8.out
      clear HC8
      replace H := Option.bind_eq_some_iff.mp H
      obtain ⟨t718, A150, H⟩ := H
      replace H : (if t717 = t718 then (laws_FnWalkCost.j1 kj2 l1 t713 t717 (decide (t717 < 0)) t709 t710) else (laws_FnWalkCost.j1 kj2 l1 t713 t717 true t709 t710)) = some r := H
      have A15 := Aside0.mk A150
      clear A150
      by_cases c16 : t717 = t718
      ·rw [if_pos c16] at H
       have c16b0 : (t717 == t718) = true := beq_iff_eq.mpr c16
       have c16b1 : (t717 != t718) = false := bne_eq_false_iff_eq.mpr c16
       clear c16
       (first | rw [c16b0] | (simp only [i64_w, i32_w]; rw [c16b0]) | skip)
       have H' := Aside0.mk H
       clear H
       have hcz17_0 : w14.cell? ⟨gb716, 0, none⟩ = some (.int .i64 t709) := (blk_cell BK716.out 0).trans rfl
       have hcz17_1 : w14.cell? ⟨gb716, 1, none⟩ = some (.slice Ao12 t710.length co12) := (blk_cell BK716.out 1).trans rfl
       have hfz17_0 := blk_frozen BK716.out 0
       have hfz17_1 := blk_frozen BK716.out 1
       go_wp2_with (first | ((with_reducible refine gate_callee (f := 48) rfl ?_); refine goesL_ (some 28) rfl rfl Try.func48 (by kernel_rfl) rfl #[.agg #[.int .i64 t709, .slice Ao12 t710.length co12], .slice Ao13 t713.length co13] rfl na_ ?_; (with_reducible refine (spec_WalkCost.calls kj2 t709 _ _ t710 _ _ t713 t718 _ ?side1 ?side2 ?side3 ?side4 A15.out).mono ?_); (case side1 => exact nc_ (rR11 HO712.out).2.2); (case side2 => exact (rR11 HO712.out).2.1); (case side3 => exact nc_ (rR11 HO715.out).2.2); (case side4 => exact (rR11 HO715.out).2.1); rintro e w18 ⟨rfl, hb⟩; refine ⟨_, rfl, ?_⟩; have n0_ := Aside0.mk (Kd.R_below (nr_ HO712.out) hb); have n1_ := Aside0.mk (Kd.R_below (nr_ HO715.out) hb); have n2_ := Aside0.mk (blk_below (g := gb716) (o := .cells #[.int .i64 t709, .slice Ao12 t710.length co12] 29 (0, 0)) (nb_ BK716.out) hb); have n3_ := Aside0.mk (below_step (ne_ HB.out) hb); clear HO712; clear HO715; clear BK716; clear HB; have HO712 := n0_; have HO715 := n1_; have BK716 := n2_; have HB := n3_; clear n0_ n1_ n2_ n3_; (try clear hb); (try clear hb2); (try clear hk); (try clear hi)))
       go_meet
       case rel => exact ⟨_, (decide (t717 < 0)), ns_, H', ⟨by have := HJ2.out; first | omega | exact Nat.le_refl _⟩, ⟨by (with_reducible repeat (first | apply Kd.R_alloc | apply Kd.R_drewN | apply Kd.R_drew)); exact HO715.out⟩, ⟨by (with_reducible repeat (first | apply Kd.R_alloc | apply Kd.R_drewN | apply Kd.R_drew)); exact HO712.out⟩, ⟨by (with_reducible repeat (first | refine blk_drewN ?_ _ | refine blk_drew ?_ | refine blk_alloc ?_ _)); exact BK716.out⟩, ⟨by repeat (first | (with_reducible first | exact HB.out | apply below_alloc | apply pw_below_drewN | apply below_drew1 | refine below_set ?_ GE716.out) | exact HB.out)⟩⟩
      ·rw [if_neg c16] at H
       have c16b0 : (t717 == t718) = false := beq_eq_false_iff_ne.mpr c16
       have c16b1 : (t717 != t718) = true := bne_iff_ne.mpr c16
       (first | rw [c16b0] | (simp only [i64_w, i32_w]; rw [c16b0]) | skip)
       have H' := Aside0.mk H
       clear H
       have hcz19_0 : w14.cell? ⟨gb716, 0, none⟩ = some (.int .i64 t709) := (blk_cell BK716.out 0).trans rfl
       have hcz19_1 : w14.cell? ⟨gb716, 1, none⟩ = some (.slice Ao12 t710.length co12) := (blk_cell BK716.out 1).trans rfl
       have hfz19_0 := blk_frozen BK716.out 0
       have hfz19_1 := blk_frozen BK716.out 1
       go_wp2_with (first | ((with_reducible refine gate_callee (f := 48) rfl ?_); refine goesL_ (some 28) rfl rfl Try.func48 (by kernel_rfl) rfl #[.agg #[.int .i64 t709, .slice Ao12 t710.length co12], .slice Ao13 t713.length co13] rfl na_ ?_; (with_reducible refine (spec_WalkCost.calls kj2 t709 _ _ t710 _ _ t713 t718 _ ?side1 ?side2 ?side3 ?side4 A15.out).mono ?_); (case side1 => exact nc_ (rR11 HO712.out).2.2); (case side2 => exact (rR11 HO712.out).2.1); (case side3 => exact nc_ (rR11 HO715.out).2.2); (case side4 => exact (rR11 HO715.out).2.1); rintro e w20 ⟨rfl, hb⟩; refine ⟨_, rfl, ?_⟩; have n0_ := Aside0.mk (Kd.R_below (nr_ HO712.out) hb); have n1_ := Aside0.mk (Kd.R_below (nr_ HO715.out) hb); have n2_ := Aside0.mk (blk_below (g := gb716) (o := .cells #[.int .i64 t709, .slice Ao12 t710.length co12] 29 (0, 0)) (nb_ BK716.out) hb); have n3_ := Aside0.mk (below_step (ne_ HB.out) hb); clear HO712; clear HO715; clear BK716; clear HB; have HO712 := n0_; have HO715 := n1_; have BK716 := n2_; have HB := n3_; clear n0_ n1_ n2_ n3_; (try clear hb); (try clear hb2); (try clear hk); (try clear hi)))
       go_meet
       case rel => exact ⟨_, (true), ns_, H', ⟨by have := HJ2.out; first | omega | exact Nat.le_refl _⟩, ⟨by (with_reducible repeat (first | apply Kd.R_alloc | apply Kd.R_drewN | apply Kd.R_drew)); exact HO715.out⟩, ⟨by (with_reducible repeat (first | apply Kd.R_alloc | apply Kd.R_drewN | apply Kd.R_drew)); exact HO712.out⟩, ⟨by (with_reducible repeat (first | refine blk_drewN ?_ _ | refine blk_drew ?_ | refine blk_alloc ?_ _)); exact BK716.out⟩, ⟨by repeat (first | (with_reducible first | exact HB.out | apply below_alloc | apply pw_below_drewN | apply below_drew1 | refine below_set ?_ GE716.out) | exact HB.out)⟩⟩
     case rest =>
      clear HC8
      try clear c1
      try clear p2
      try clear c4
      try clear c4b0
      try clear c4b1
      try clear c5
      try clear c11
      try clear c16
      try clear c16b0
      try clear c16b1
      try clear hcz11_0
      try clear hcz11_1
      try clear hcz17_0
      try clear hcz17_1
      try clear hcz19_0
      try clear hcz19_1
      try clear hfz11_0
      try clear hfz11_1
      try clear hfz17_0
      try clear hfz17_1
      try clear hfz19_0
      try clear hfz19_1
      try clear p2
      obtain ⟨kq, x33_7, rfl, HA, HJ7, HO_6, HO_717001, BK716, HB⟩ := hcut
      cases kq with
      | zero => exact absurd HA.out (by simp [laws_FnWalkCost.j1])
      | succ kj7 =>
       have H := HA.out
       clear HA
       simp only [laws_FnWalkCost.j1] at H
       by_cases c21 : x33_7 = true
       ·subst c21
        have H1 : ((spec_WalkCost.f kj7 t709 t710 t713).bind fun t719 => (if t717 = t719 then ((impl_WalkOk.f kj7 t709 t710 t713).bind fun t720 => (some (!t720))) else (some false))) = some r := by rw [if_pos rfl] at H; exact H
        clear H
        have H := H1
        clear H1
        replace H := Option.bind_eq_some_iff.mp H
        obtain ⟨t719, A220, H⟩ := H
        replace H : (if t717 = t719 then ((impl_WalkOk.f kj7 t709 t710 t713).bind fun t720 => (some (!t720))) else (some false)) = some r := H
        have A22 := Aside0.mk A220
        clear A220
        by_cases c23 : t717 = t719
        ·rw [if_pos c23] at H
         have c23b0 : (t717 == t719) = true := beq_iff_eq.mpr c23
         have c23b1 : (t717 != t719) = false := bne_eq_false_iff_eq.mpr c23
         clear c23
         replace H := Option.bind_eq_some_iff.mp H
         obtain ⟨t720, A240, H⟩ := H
         replace H : (some (!t720)) = some r := H
         have A24 := Aside0.mk A240
         clear A240
         obtain rfl := Option.some.inj H
         have hcz25_0 : wc.cell? ⟨gb716, 0, none⟩ = some (.int .i64 t709) := (blk_cell BK716.out 0).trans rfl
         have hcz25_1 : wc.cell? ⟨gb716, 1, none⟩ = some (.slice Ao12 t710.length co12) := (blk_cell BK716.out 1).trans rfl
         have hfz25_0 := blk_frozen BK716.out 0
         have hfz25_1 := blk_frozen BK716.out 1
         go_wp2_with (first | ((with_reducible refine gate_callee (f := 48) rfl ?_); refine goesL_ (some 37) rfl rfl Try.func48 (by kernel_rfl) rfl #[.agg #[.int .i64 t709, .slice Ao12 t710.length co12], .slice Ao13 t713.length co13] rfl na_ ?_; (with_reducible refine (spec_WalkCost.calls kj7 t709 _ _ t710 _ _ t713 t719 _ ?side1 ?side2 ?side3 ?side4 A22.out).mono ?_); (case side1 => exact nc_ (rR11 HO_717001.out).2.2); (case side2 => exact (rR11 HO_717001.out).2.1); (case side3 => exact nc_ (rR11 HO_6.out).2.2); (case side4 => exact (rR11 HO_6.out).2.1); rintro e w26 ⟨rfl, hb⟩; refine ⟨_, rfl, ?_⟩; have n0_ := Aside0.mk (Kd.R_below (nr_ HO_6.out) hb); have n1_ := Aside0.mk (Kd.R_below (nr_ HO_717001.out) hb); have n2_ := Aside0.mk (blk_below (g := gb716) (o := .cells #[.int .i64 t709, .slice Ao12 t710.length co12] 29 (0, 0)) (nb_ BK716.out) hb); have n3_ := Aside0.mk (below_step (ne_ HB.out) hb); clear HO_6; clear HO_717001; clear BK716; clear HB; have HO_6 := n0_; have HO_717001 := n1_; have BK716 := n2_; have HB := n3_; clear n0_ n1_ n2_ n3_; (try clear hb); (try clear hb2); (try clear hk); (try clear hi); have hcz27_0 : w26.cell? ⟨gb716, 0, none⟩ = some (.int .i64 t709) := (blk_cell BK716.out 0).trans rfl; have hcz27_1 : w26.cell? ⟨gb716, 1, none⟩ = some (.slice Ao12 t710.length co12) := (blk_cell BK716.out 1).trans rfl; have hfz27_0 := blk_frozen BK716.out 0; have hfz27_1 := blk_frozen BK716.out 1) | (go_at_call 43; (with_reducible refine (impl_WalkOk.calls kj7 t709 _ _ t710 _ _ t713 t720 _ ?side1 ?side2 ?side3 ?side4 A24.out).mono ?_); (case side1 => exact nc_ (rR11 HO_717001.out).2.2); (case side2 => exact (rR11 HO_717001.out).2.1); (case side3 => exact nc_ (rR11 HO_6.out).2.2); (case side4 => exact (rR11 HO_6.out).2.1); rintro e w28 ⟨rfl, hb⟩; have n0_ := Aside0.mk (Kd.R_below (nr_ HO_6.out) hb); have n1_ := Aside0.mk (Kd.R_below (nr_ HO_717001.out) hb); have n2_ := Aside0.mk (blk_below (g := gb716) (o := .cells #[.int .i64 t709, .slice Ao12 t710.length co12] 29 (0, 0)) (nb_ BK716.out) hb); have n3_ := Aside0.mk (below_step (ne_ HB.out) hb); clear HO_6; clear HO_717001; clear BK716; clear HB; have HO_6 := n0_; have HO_717001 := n1_; have BK716 := n2_; have HB := n3_; clear n0_ n1_ n2_ n3_; (try clear hb); (try clear hb2); (try clear hk); (try clear hi)))
         go_ret
         exact ⟨by first | rfl | (simp [errW_none, errW_some] <;> rfl) | (simp [*, errW_none, errW_some] <;> rfl), by repeat (first | (with_reducible first | exact HB.out | apply below_alloc | apply pw_below_drewN | apply below_drew1 | refine below_set ?_ GE716.out) | exact HB.out)⟩
        ·rw [if_neg c23] at H
         have c23b0 : (t717 == t719) = false := beq_eq_false_iff_ne.mpr c23
         have c23b1 : (t717 != t719) = true := bne_iff_ne.mpr c23
         obtain rfl := Option.some.inj H
         have hcz29_0 : wc.cell? ⟨gb716, 0, none⟩ = some (.int .i64 t709) := (blk_cell BK716.out 0).trans rfl
         have hcz29_1 : wc.cell? ⟨gb716, 1, none⟩ = some (.slice Ao12 t710.length co12) := (blk_cell BK716.out 1).trans rfl
         have hfz29_0 := blk_frozen BK716.out 0
         have hfz29_1 := blk_frozen BK716.out 1
         go_wp2_with (first | ((with_reducible refine gate_callee (f := 48) rfl ?_); refine goesL_ (some 37) rfl rfl Try.func48 (by kernel_rfl) rfl #[.agg #[.int .i64 t709, .slice Ao12 t710.length co12], .slice Ao13 t713.length co13] rfl na_ ?_; (with_reducible refine (spec_WalkCost.calls kj7 t709 _ _ t710 _ _ t713 t719 _ ?side1 ?side2 ?side3 ?side4 A22.out).mono ?_); (case side1 => exact nc_ (rR11 HO_717001.out).2.2); (case side2 => exact (rR11 HO_717001.out).2.1); (case side3 => exact nc_ (rR11 HO_6.out).2.2); (case side4 => exact (rR11 HO_6.out).2.1); rintro e w30 ⟨rfl, hb⟩; refine ⟨_, rfl, ?_⟩; have n0_ := Aside0.mk (Kd.R_below (nr_ HO_6.out) hb); have n1_ := Aside0.mk (Kd.R_below (nr_ HO_717001.out) hb); have n2_ := Aside0.mk (blk_below (g := gb716) (o := .cells #[.int .i64 t709, .slice Ao12 t710.length co12] 29 (0, 0)) (nb_ BK716.out) hb); have n3_ := Aside0.mk (below_step (ne_ HB.out) hb); clear HO_6; clear HO_717001; clear BK716; clear HB; have HO_6 := n0_; have HO_717001 := n1_; have BK716 := n2_; have HB := n3_; clear n0_ n1_ n2_ n3_; (try clear hb); (try clear hb2); (try clear hk); (try clear hi)))
         go_ret
         exact ⟨by first | rfl | (simp [errW_none, errW_some] <;> rfl) | (simp [*, errW_none, errW_some] <;> rfl), by repeat (first | (with_reducible first | exact HB.out | apply below_alloc | apply pw_below_drewN | apply below_drew1 | refine below_set ?_ GE716.out) | exact HB.out)⟩
       ·replace c21 := Bool.eq_false_iff.mpr c21
        subst c21
        have H1 : (if (wrap64 ((t713.length : Int) + 1)) = 0 then (none) else ((impl_WalkOk.f kj7 t709 t710 t713).bind fun t721 => (if t721 = true then (if 0 ≤ ((l1.length : Int) % (wrap64 ((t713.length : Int) + 1))) then (if ((l1.length : Int) % (wrap64 ((t713.length : Int) + 1))) ≤ (t713.length : Int) then ((impl_WalkCost.f kj7 t709 t710 (t713.take (((l1.length : Int) % (wrap64 ((t713.length : Int) + 1))) : Int).toNat)).bind fun t726 => ((impl_WalkCost.f kj7 t709 t710 (t713.drop (((l1.length : Int) % (wrap64 ((t713.length : Int) + 1))) : Int).toNat)).bind fun t731 => (some ((wrap64 (t726 + t731)) == t717)))) else (none)) else (none)) else (some false)))) = some r := by rw [if_neg (show ¬ (false = true) by decide)] at H; exact H
        clear H
        have H := H1
        clear H1
        by_cases c31 : (wrap64 ((t713.length : Int) + 1)) = 0
        ·rw [if_pos c31] at H
         exact absurd H (by simp)
        ·rw [if_neg c31] at H
         have c31b0 : ((wrap64 ((t713.length : Int) + 1)) == 0) = false := beq_eq_false_iff_ne.mpr c31
         have c31b1 : ((wrap64 ((t713.length : Int) + 1)) != 0) = true := bne_iff_ne.mpr c31
         replace H := Option.bind_eq_some_iff.mp H
         obtain ⟨t721, A320, H⟩ := H
         replace H : (if t721 = true then (if 0 ≤ ((l1.length : Int) % (wrap64 ((t713.length : Int) + 1))) then (if ((l1.length : Int) % (wrap64 ((t713.length : Int) + 1))) ≤ (t713.length : Int) then ((impl_WalkCost.f kj7 t709 t710 (t713.take (((l1.length : Int) % (wrap64 ((t713.length : Int) + 1))) : Int).toNat)).bind fun t726 => ((impl_WalkCost.f kj7 t709 t710 (t713.drop (((l1.length : Int) % (wrap64 ((t713.length : Int) + 1))) : Int).toNat)).bind fun t731 => (some ((wrap64 (t726 + t731)) == t717)))) else (none)) else (none)) else (some false)) = some r := H
         have A32 := Aside0.mk A320
         clear A320
         by_cases c33 : t721 = true
         ·subst c33
          have H1 : (if 0 ≤ ((l1.length : Int) % (wrap64 ((t713.length : Int) + 1))) then (if ((l1.length : Int) % (wrap64 ((t713.length : Int) + 1))) ≤ (t713.length : Int) then ((impl_WalkCost.f kj7 t709 t710 (t713.take (((l1.length : Int) % (wrap64 ((t713.length : Int) + 1))) : Int).toNat)).bind fun t726 => ((impl_WalkCost.f kj7 t709 t710 (t713.drop (((l1.length : Int) % (wrap64 ((t713.length : Int) + 1))) : Int).toNat)).bind fun t731 => (some ((wrap64 (t726 + t731)) == t717)))) else (none)) else (none)) = some r := by rw [if_pos rfl] at H; exact H
          clear H
          have H := H1
          clear H1
          obtain ⟨ji34, hji34⟩ : ∃ j_ : Int, ((l1.length : Int) % (wrap64 ((t713.length : Int) + 1))) = j_ := ⟨_, rfl⟩
          replace H : (if 0 ≤ (ji34) then (if (ji34) ≤ (t713.length : Int) then ((impl_WalkCost.f kj7 t709 t710 (t713.take ((ji34) : Int).toNat)).bind fun t726 => ((impl_WalkCost.f kj7 t709 t710 (t713.drop ((ji34) : Int).toNat)).bind fun t731 => (some ((wrap64 (t726 + t731)) == t717)))) else (none)) else (none)) = some r := by first | (rw [hji34] at H; exact H) | (simp only [hji34] at H ⊢; exact H)
          (try rw [hji34] at A32)
          by_cases c35 : 0 ≤ (ji34)
          ·rw [if_pos c35] at H
           have c35b0 := eq_true c35
           have c35b1 : decide (0 ≤ (ji34)) = true := decide_eq_true c35
           clear c35
           by_cases c36 : (ji34) ≤ (t713.length : Int)
           ·rw [if_pos c36] at H
            have c36b0 := eq_true c36
            have c36b1 : decide ((ji34) ≤ (t713.length : Int)) = true := decide_eq_true c36
            clear c36
            obtain ⟨y722, hy722⟩ : ∃ y_ : List Int, y_ = (t713.take ((ji34) : Int).toNat) := ⟨_, rfl⟩
            replace H : ((impl_WalkCost.f kj7 t709 t710 y722).bind fun t726 => ((impl_WalkCost.f kj7 t709 t710 (t713.drop ((ji34) : Int).toNat)).bind fun t731 => (some ((wrap64 (t726 + t731)) == t717)))) = some r := by first | (rw [hy722]; with_reducible exact H) | (have H2_ := (Option.bind_some _ _).symm.trans H; rw [hy722]; with_reducible exact H2_) | (have H2_ := (Option.bind_some _ _).symm.trans H; with_reducible exact H2_) | with_reducible exact H | (rw [hy722]; exact H) | exact H
            have Ny722 := Aside0.mk hy722
            clear hy722
            replace H := Option.bind_eq_some_iff.mp H
            obtain ⟨t726, A370, H⟩ := H
            replace H : ((impl_WalkCost.f kj7 t709 t710 (t713.drop ((ji34) : Int).toNat)).bind fun t731 => (some ((wrap64 (t726 + t731)) == t717))) = some r := H
            have A37 := Aside0.mk A370
            clear A370
            have c38b0 := eq_true (of_decide_eq_true nx_ : 0 ≤ (ji34))
            have c39b0 := eq_true (of_decide_eq_true nx_ : (ji34) ≤ (t713.length : Int))
            obtain ⟨y727, hy727⟩ : ∃ y_ : List Int, y_ = (t713.drop ((ji34) : Int).toNat) := ⟨_, rfl⟩
            replace H : ((impl_WalkCost.f kj7 t709 t710 y727).bind fun t731 => (some ((wrap64 (t726 + t731)) == t717))) = some r := by first | (rw [hy727]; with_reducible exact H) | (have H2_ := (Option.bind_some _ _).symm.trans H; rw [hy727]; with_reducible exact H2_) | (have H2_ := (Option.bind_some _ _).symm.trans H; with_reducible exact H2_) | with_reducible exact H | (rw [hy727]; exact H) | exact H
            have Ny727 := Aside0.mk hy727
            clear hy727
            replace H := Option.bind_eq_some_iff.mp H
            obtain ⟨t731, A400, H⟩ := H
            replace H : (some ((wrap64 (t726 + t731)) == t717)) = some r := H
            have A40 := Aside0.mk A400
            clear A400
            obtain rfl := Option.some.inj H
            try go_wp2
            have n0_ := Aside0.mk (Kd.R_drew HO_6.out)
            have n1_ := Aside0.mk (Kd.R_drew HO_717001.out)
            have n2_ := Aside0.mk (blk_drew BK716.out)
            have n3_ := Aside0.mk (below_drew1 HB.out)
            clear HO_6
            clear HO_717001
            clear BK716
            clear HB
            have HO_6 := n0_
            have HO_717001 := n1_
            have BK716 := n2_
            have HB := n3_
            clear n0_ n1_ n2_ n3_
            refine start_ (n := 19) (S := fun w' => w'.cell? ⟨gb716, 0, none⟩ = some (.int .i64 t709) ∧ w'.cell? ⟨gb716, 1, none⟩ = some (.slice Ao12 t710.length co12)) (ds := []) z11_0 (by kernel_rfl) rfl rfl ⟨(blk_cell BK716.out 0).trans rfl, (blk_cell BK716.out 1).trans rfl⟩ (fun hHeld => ?_); refine with_tabW laws_FnWalkCost.tab8 laws_FnWalkCost.bits8 (fun HT_ HW_ => ?_)
            generalize wc.drew = w41 at HO_6 HO_717001 BK716 HB hHeld ⊢
            refine pu_ 1 52 z11_1 HT_.out ?_
            refine tk_ 0 51 z11_2 HT_.out HW_.out hHeld ?_
            refine one_ (i := 2) (N := some 53) z11_3 rfl rfl (one_of HT_.out (by kernel_rfl)) (by decide) (fun K hK => ?_)
            refine goes_ Try.func43 (by kernel_rfl) rfl #[.agg #[.int .i64 t709, .slice Ao12 t710.length co12], .slice Ao13 t713.length co13] (by rfl) rfl rfl na_ ?_
            with_reducible refine (impl_WalkOk.calls kj7 t709 _ _ t710 _ _ t713 true _ ?side1 ?side2 ?side3 ?side4 A32.out).mono ?_
            (case side1 => exact nc_ (rR11 HO_717001.out).2.2)
            (case side2 => exact (rR11 HO_717001.out).2.1)
            (case side3 => exact nc_ (rR11 HO_6.out).2.2)
            (case side4 => exact (rR11 HO_6.out).2.1)
            rintro e w42 ⟨rfl, hb⟩
            refine ⟨_, rfl, ?_⟩
            have n0_ := Aside0.mk (Kd.R_below (nr_ HO_6.out) hb)
            have n1_ := Aside0.mk (Kd.R_below (nr_ HO_717001.out) hb)
            have n2_ := Aside0.mk (blk_below (g := gb716) (o := .cells #[.int .i64 t709, .slice Ao12 t710.length co12] 29 (0, 0)) (nb_ BK716.out) hb)
            have n3_ := Aside0.mk (below_step (ne_ HB.out) hb)
            clear HO_6
            clear HO_717001
            clear BK716
            clear HB
            have HO_6 := n0_
            have HO_717001 := n1_
            have BK716 := n2_
            have HB := n3_
            clear n0_ n1_ n2_ n3_
            (try clear hb)
            (try clear hb2)
            (try clear hk)
            (try clear hi)
            have q43 : ((ji34) : Int) ≤ ((t713.length : Int) : Int) := of_decide_eq_true nx_
            obtain ⟨i043, hi043, _, hsz43, _⟩ := info_parts info3
            have hroom43 : t713.length ≤ co13 := (rR11 HO_6.out).2.1
            have hC43 : Kd.C (Kd.int .i64) _ Ao13 t713.length t713 := (rR11 HO_6.out).2.2
            have hcut43 := cut_to (P := Try.prog) 41 3 .i64 Try.underlying41 hi043 Ao13 t713.length co13 (ji34) (of_decide_eq_true nx_) q43 hroom43
            have hr43 := Kd.C_take (m := ((ji34) : Int).toNat) hC43 (by omega)
            have hy43 : y722.length = ((ji34) : Int).toNat := (by rw [Ny722.out, List.length_take]; omega)
            rw [← Ny722.out] at hr43
            rw [← hy43] at hcut43
            have HR725 := Aside0.mk hr43
            have HC725 := Aside0.mk (show y722.length ≤ co13 from by omega)
            clear hr43 hC43 hroom43 hi043 hsz43
            have KY43 := Aside0.mk hy43
            clear hy43
            have KL43 := Aside0.mk (show ((ji34) : Int).toNat ≤ t713.length from by omega)
            replace q43 := eq_true q43
            refine hK.out _ _ ⟨(blk_cell BK716.out 0).trans rfl, (blk_cell BK716.out 1).trans rfl⟩ (fun hHeld => ?_)
            clear hK K
            refine norm_ (a' := ?_) ?_ ?_
            rotate_left
            ·show Act.put _ (some 53) _ = _
             simp only [Act.put, List.setIfInBounds_toArray, List.set_cons_zero, List.set_cons_succ, i64_w, i32_w]
             rfl
            refine pu_ 3 54 z11_4 HT_.out ?_
            refine pu_ 5 56 #[true, true, true, true, false, true, false, false, false, false, false, false, false, false, false, false, false, false, false] HT_.out ?_
            refine pu_ 6 57 #[true, true, true, true, false, true, true, false, false, false, false, false, false, false, false, false, false, false, false] HT_.out ?_
            refine pu_ 7 58 #[true, true, true, true, false, true, true, true, false, false, false, false, false, false, false, false, false, false, false] HT_.out ?_
            refine pu_ 10 61 #[true, true, true, true, false, true, true, true, false, false, true, false, false, false, false, false, false, false, false] HT_.out ?_
            refine pu_ 11 62 #[true, true, true, true, false, true, true, true, false, false, true, true, false, false, false, false, false, false, false] HT_.out ?_
            refine pu_ 12 63 #[true, true, true, true, false, true, true, true, false, false, true, true, true, false, false, false, false, false, false] HT_.out ?_
            refine pu_ 15 66 #[true, true, true, true, false, true, true, true, false, false, true, true, true, false, false, true, false, false, false] HT_.out ?_
            refine tk_ 4 55 #[true, true, true, true, true, true, true, true, false, false, true, true, true, false, false, true, false, false, false] HT_.out HW_.out hHeld ?_
            refine tk_ 9 60 #[true, true, true, true, true, true, true, true, false, true, true, true, true, false, false, true, false, false, false] HT_.out HW_.out hHeld ?_
            refine one_ (i := 8) (N := some 59) #[true, true, true, true, true, true, true, true, true, true, true, true, true, false, false, true, false, false, false] rfl rfl (one_of HT_.out (by kernel_rfl)) (by decide) (fun K hK => ?_)
            refine goes_ Try.func47 (by kernel_rfl) rfl #[.agg #[.int .i64 t709, .slice Ao12 t710.length co12], .slice Ao13 y722.length co13] (by rfl) rfl rfl na_ ?_
            with_reducible refine (impl_WalkCost.calls kj7 t709 _ _ t710 _ _ y722 t726 _ ?side1 ?side2 ?side3 ?side4 A37.out).mono ?_
            (case side1 => exact nc_ (rR11 HO_717001.out).2.2)
            (case side2 => exact (rR11 HO_717001.out).2.1)
            (case side3 => repeat (first | exact (by repeat (first | (with_reducible exact HR725.out) | (with_reducible refine Kd.C_alloc ?_ _) | (with_reducible refine Kd.C_drewN ?_ _) | (with_reducible refine Kd.C_drew ?_) | exact HR725.out)) | (with_reducible refine Kd.C_alloc ?_ _) | (with_reducible refine Kd.C_drewN ?_ _) | (with_reducible refine Kd.C_drew ?_)))
            (case side4 => exact HC725.out)
            rintro e w44 ⟨rfl, hb⟩
            refine ⟨_, rfl, ?_⟩
            have n0_ := Aside0.mk (Kd.R_below (nr_ HO_6.out) hb)
            have n1_ := Aside0.mk (Kd.R_below (nr_ HO_717001.out) hb)
            have n2_ := Aside0.mk (blk_below (g := gb716) (o := .cells #[.int .i64 t709, .slice Ao12 t710.length co12] 29 (0, 0)) (nb_ BK716.out) hb)
            have n3_ := Aside0.mk (Kd.C_below (by repeat (first | (with_reducible exact HR725.out) | (with_reducible refine Kd.C_alloc ?_ _) | (with_reducible refine Kd.C_drewN ?_ _) | (with_reducible refine Kd.C_drew ?_) | exact HR725.out)) hb)
            have n4_ := Aside0.mk (below_step (ne_ HB.out) hb)
            clear HO_6
            clear HO_717001
            clear BK716
            clear HR725
            clear HB
            have HO_6 := n0_
            have HO_717001 := n1_
            have BK716 := n2_
            have HR725 := n3_
            have HB := n4_
            clear n0_ n1_ n2_ n3_ n4_
            (try clear hb)
            (try clear hb2)
            (try clear hk)
            (try clear hi)
            have q45 : ((ji34) : Int) ≤ ((t713.length : Int) : Int) := of_decide_eq_true nx_
            obtain ⟨i045, hi045, _, hsz45, _⟩ := info_parts info3
            have hroom45 : t713.length ≤ co13 := (rR11 HO_6.out).2.1
            have hC45 : Kd.C (Kd.int .i64) _ Ao13 t713.length t713 := (rR11 HO_6.out).2.2
            have q045 : (0 : Int) ≤ ((ji34) : Int) := of_decide_eq_true nx_
            have hcut45 := cut_from (P := Try.prog) 41 3 .i64 Try.underlying41 hi045 1 hsz45 Ao13 t713.length co13 (ji34) q045 q45
            have hr45 := Kd.C_drop (m := ((ji34) : Int).toNat) (c := co13) hC45 (by omega) hroom45
            obtain ⟨A45, hA45⟩ : ∃ A1, A1 = (if co13 = ((ji34) : Int).toNat then Ao13 else (Ao13 : Option Addr).map (·.add (((ji34) : Int).toNat * 1))) := ⟨_, rfl⟩
            obtain ⟨c45, hc45⟩ : ∃ c1, c1 = co13 - ((ji34) : Int).toNat := ⟨_, rfl⟩
            have hy45 : y727.length = t713.length - ((ji34) : Int).toNat := (by rw [Ny727.out, List.length_drop] <;> omega)
            rw [show (t713).drop ((ji34) : Int).toNat = y727 from Ny727.out.symm] at hr45
            replace hr45 : Kd.C (Kd.int .i64) _ A45 y727.length y727 := (by rw [hA45]; exact hr45)
            rw [← hy45, ← hA45, ← hc45] at hcut45
            have HR730 := Aside0.mk hr45
            have HC730 := Aside0.mk (show y727.length ≤ c45 from by rw [hy45, hc45]; exact Nat.sub_le_sub_right hroom45 _)
            clear hr45 hC45 hroom45 hi045 hsz45
            have KC45 := Aside0.mk hc45
            clear hc45
            have KY45 := Aside0.mk hy45
            have KA45 := Aside0.mk hA45
            clear hy45 hA45
            have KL45 := Aside0.mk (show ((ji34) : Int).toNat ≤ t713.length from by omega)
            replace q45 := eq_true q45
            refine hK.out _ _ ⟨(blk_cell BK716.out 0).trans rfl, (blk_cell BK716.out 1).trans rfl⟩ (fun hHeld => ?_)
            clear hK K
            refine norm_ (a' := ?_) ?_ ?_
            rotate_left
            ·show Act.put _ (some 59) _ = _
             simp only [Act.put, List.setIfInBounds_toArray, List.set_cons_zero, List.set_cons_succ, i64_w, i32_w]
             rfl
            refine one_ (i := 13) (N := some 64) #[true, true, true, true, true, true, true, true, true, true, true, true, true, true, false, true, false, false, false] rfl rfl (one_of HT_.out (by kernel_rfl)) (by decide) (fun K hK => ?_)
            refine goes_ Try.func47 (by kernel_rfl) rfl #[.agg #[.int .i64 t709, .slice Ao12 t710.length co12], .slice A45 y727.length c45] (by rfl) rfl rfl (by first | exact na_ | ((try simp only [List.map_toArray, List.map_cons, List.map_nil]); rw [KA45.out, KY45.out, KC45.out]; (try simp only [Nat.mul_one]); rfl)) ?_
            with_reducible refine (impl_WalkCost.calls kj7 t709 _ _ t710 _ _ y727 t731 _ ?side1 ?side2 ?side3 ?side4 A40.out).mono ?_
            (case side1 => exact nc_ (rR11 HO_717001.out).2.2)
            (case side2 => exact (rR11 HO_717001.out).2.1)
            (case side3 => repeat (first | exact (by repeat (first | (with_reducible exact HR730.out) | (with_reducible refine Kd.C_alloc ?_ _) | (with_reducible refine Kd.C_drewN ?_ _) | (with_reducible refine Kd.C_drew ?_) | exact HR730.out)) | (with_reducible refine Kd.C_alloc ?_ _) | (with_reducible refine Kd.C_drewN ?_ _) | (with_reducible refine Kd.C_drew ?_)))
            (case side4 => exact HC730.out)
            rintro e w46 ⟨rfl, hb⟩
            refine ⟨_, rfl, ?_⟩
            have n0_ := Aside0.mk (Kd.R_below (nr_ HO_6.out) hb)
            have n1_ := Aside0.mk (Kd.R_below (nr_ HO_717001.out) hb)
            have n2_ := Aside0.mk (blk_below (g := gb716) (o := .cells #[.int .i64 t709, .slice Ao12 t710.length co12] 29 (0, 0)) (nb_ BK716.out) hb)
            have n3_ := Aside0.mk (Kd.C_below (by repeat (first | (with_reducible exact HR725.out) | (with_reducible refine Kd.C_alloc ?_ _) | (with_reducible refine Kd.C_drewN ?_ _) | (with_reducible refine Kd.C_drew ?_) | exact HR725.out)) hb)
            have n4_ := Aside0.mk (Kd.C_below (by repeat (first | (with_reducible exact HR730.out) | (with_reducible refine Kd.C_alloc ?_ _) | (with_reducible refine Kd.C_drewN ?_ _) | (with_reducible refine Kd.C_drew ?_) | exact HR730.out)) hb)
            have n5_ := Aside0.mk (below_step (ne_ HB.out) hb)
            clear HO_6
            clear HO_717001
            clear BK716
            clear HR725
            clear HR730
            clear HB
            have HO_6 := n0_
            have HO_717001 := n1_
            have BK716 := n2_
            have HR725 := n3_
            have HR730 := n4_
            have HB := n5_
            clear n0_ n1_ n2_ n3_ n4_ n5_
            (try clear hb)
            (try clear hb2)
            (try clear hk)
            (try clear hi)
            refine hK.out _ _ ⟨(blk_cell BK716.out 0).trans rfl, (blk_cell BK716.out 1).trans rfl⟩ (fun hHeld => ?_)
            clear hK K
            refine norm_ (a' := ?_) ?_ ?_
            rotate_left
            ·show Act.put _ (some 64) _ = _
             simp only [Act.put, List.setIfInBounds_toArray, List.set_cons_zero, List.set_cons_succ, i64_w, i32_w]
             rfl
            refine pu_ 14 65 z11_5 HT_.out ?_
            refine pu_ 16 67 z11_6 HT_.out ?_
            refine pu_ 17 68 z11_7 HT_.out ?_
            refine pu_ 18 4 z11_8 HT_.out ?_
            refine done_ (done_of HT_.out (by kernel_rfl)) ?_
            try go_wp2
            all_goals go_ret
            all_goals exact ⟨by first | rfl | (simp [errW_none, errW_some] <;> rfl) | (simp only [← hji34]; first | rfl | (simp [errW_none, errW_some] <;> rfl)) | (simp [*, errW_none, errW_some] <;> rfl), by repeat (first | (with_reducible first | exact HB.out | apply below_alloc | apply pw_below_drewN | apply below_drew1 | refine below_set ?_ GE716.out) | exact HB.out)⟩
           ·rw [if_neg c36] at H
            exact absurd H (by simp)
          ·rw [if_neg c35] at H
           exact absurd H (by simp)
         ·replace c33 := Bool.eq_false_iff.mpr c33
          subst c33
          have H1 : (some false) = some r := by rw [if_neg (show ¬ (false = true) by decide)] at H; exact H
          clear H
          have H := H1
          clear H1
          obtain rfl := Option.some.inj H
          try go_wp2
          have n0_ := Aside0.mk (Kd.R_drew HO_6.out)
          have n1_ := Aside0.mk (Kd.R_drew HO_717001.out)
          have n2_ := Aside0.mk (blk_drew BK716.out)
          have n3_ := Aside0.mk (below_drew1 HB.out)
          clear HO_6
          clear HO_717001
          clear BK716
          clear HB
          have HO_6 := n0_
          have HO_717001 := n1_
          have BK716 := n2_
          have HB := n3_
          clear n0_ n1_ n2_ n3_
          refine start_ (n := 19) (S := fun w' => w'.cell? ⟨gb716, 0, none⟩ = some (.int .i64 t709) ∧ w'.cell? ⟨gb716, 1, none⟩ = some (.slice Ao12 t710.length co12)) (ds := []) z11_0 (by kernel_rfl) rfl rfl ⟨(blk_cell BK716.out 0).trans rfl, (blk_cell BK716.out 1).trans rfl⟩ (fun hHeld => ?_); refine with_tabW laws_FnWalkCost.tab8 laws_FnWalkCost.bits8 (fun HT_ HW_ => ?_)
          generalize wc.drew = w47 at HO_6 HO_717001 BK716 HB hHeld ⊢
          refine pu_ 1 52 z11_1 HT_.out ?_
          refine tk_ 0 51 z11_2 HT_.out HW_.out hHeld ?_
          refine one_ (i := 2) (N := some 53) z11_3 rfl rfl (one_of HT_.out (by kernel_rfl)) (by decide) (fun K hK => ?_)
          refine goes_ Try.func43 (by kernel_rfl) rfl #[.agg #[.int .i64 t709, .slice Ao12 t710.length co12], .slice Ao13 t713.length co13] (by rfl) rfl rfl na_ ?_
          with_reducible refine (impl_WalkOk.calls kj7 t709 _ _ t710 _ _ t713 false _ ?side1 ?side2 ?side3 ?side4 A32.out).mono ?_
          (case side1 => exact nc_ (rR11 HO_717001.out).2.2)
          (case side2 => exact (rR11 HO_717001.out).2.1)
          (case side3 => exact nc_ (rR11 HO_6.out).2.2)
          (case side4 => exact (rR11 HO_6.out).2.1)
          rintro e w48 ⟨rfl, hb⟩
          refine ⟨_, rfl, ?_⟩
          have n0_ := Aside0.mk (Kd.R_below (nr_ HO_6.out) hb)
          have n1_ := Aside0.mk (Kd.R_below (nr_ HO_717001.out) hb)
          have n2_ := Aside0.mk (blk_below (g := gb716) (o := .cells #[.int .i64 t709, .slice Ao12 t710.length co12] 29 (0, 0)) (nb_ BK716.out) hb)
          have n3_ := Aside0.mk (below_step (ne_ HB.out) hb)
          clear HO_6
          clear HO_717001
          clear BK716
          clear HB
          have HO_6 := n0_
          have HO_717001 := n1_
          have BK716 := n2_
          have HB := n3_
          clear n0_ n1_ n2_ n3_
          (try clear hb)
          (try clear hb2)
          (try clear hk)
          (try clear hi)
          refine hK.out _ _ ⟨(blk_cell BK716.out 0).trans rfl, (blk_cell BK716.out 1).trans rfl⟩ (fun hHeld => ?_)
          clear hK K
          refine norm_ (a' := ?_) ?_ ?_
          rotate_left
          ·show Act.put _ (some 53) _ = _
           simp only [Act.put, List.setIfInBounds_toArray, List.set_cons_zero, List.set_cons_succ, i64_w, i32_w]
           rfl
          refine pu_ 3 54 z11_4 HT_.out ?_
          refine un_ 4 55 #[true, true, true, true, true, false, false, false, false, false, false, false, false, false, false, false, false, false, false] HT_.out ?_
          refine un_ 5 56 #[true, true, true, true, true, true, false, false, false, false, false, false, false, false, false, false, false, false, false] HT_.out ?_
          refine un_ 6 57 #[true, true, true, true, true, true, true, false, false, false, false, false, false, false, false, false, false, false, false] HT_.out ?_
          refine un_ 7 58 #[true, true, true, true, true, true, true, true, false, false, false, false, false, false, false, false, false, false, false] HT_.out ?_
          refine un_ 8 59 #[true, true, true, true, true, true, true, true, true, false, false, false, false, false, false, false, false, false, false] HT_.out ?_
          refine un_ 9 60 #[true, true, true, true, true, true, true, true, true, true, false, false, false, false, false, false, false, false, false] HT_.out ?_
          refine un_ 10 61 #[true, true, true, true, true, true, true, true, true, true, true, false, false, false, false, false, false, false, false] HT_.out ?_
          refine un_ 11 62 #[true, true, true, true, true, true, true, true, true, true, true, true, false, false, false, false, false, false, false] HT_.out ?_
          refine un_ 12 63 #[true, true, true, true, true, true, true, true, true, true, true, true, true, false, false, false, false, false, false] HT_.out ?_
          refine un_ 13 64 #[true, true, true, true, true, true, true, true, true, true, true, true, true, true, false, false, false, false, false] HT_.out ?_
          refine un_ 14 65 #[true, true, true, true, true, true, true, true, true, true, true, true, true, true, true, false, false, false, false] HT_.out ?_
          refine un_ 15 66 z11_5 HT_.out ?_
          refine un_ 16 67 z11_6 HT_.out ?_
          refine pu_ 17 68 z11_7 HT_.out ?_
          refine pu_ 18 4 z11_8 HT_.out ?_
          refine done_ (done_of HT_.out (by kernel_rfl)) ?_
          try go_wp2
          go_ret
          exact ⟨by first | rfl | (simp [errW_none, errW_some] <;> rfl) | (simp [*, errW_none, errW_some] <;> rfl), by repeat (first | (with_reducible first | exact HB.out | apply below_alloc | apply pw_below_drewN | apply below_drew1 | refine below_set ?_ GE716.out) | exact HB.out)⟩

/-- THE ONE PURE STATEMENT of laws_FnWalkCost: yours. -/
def laws_FnWalkCost.Pure : Prop := ∀ (l0 : List Int) (l1 : List Int), l0.length ≤ maxLen → l0.length * 1 ≤ 140737488351232 → (∀ x ∈ l0, (Lit.int .u8 x).wf = true) → l1.length ≤ maxLen → l1.length * 1 ≤ 140737488351232 → (∀ x ∈ l1, (Lit.int .u8 x).wf = true) → ∃ k, laws_FnWalkCost.f k l0 l1 = some true
theorem laws_FnWalkCost.walk (P : laws_FnWalkCost.Pure) (a0 : Option Addr) (len0 cap0 : Nat) (z0 : List Int) (a1 : Option Addr) (len1 cap1 : Nat) (z1 : List Int) (w : World) (w0 : (a0 = none ∧ len0 = 0 ∧ cap0 = 0 ∧ z0 = []) ∨ ∃ x, a0 = some x ∧ len0 ≤ cap0 ∧ cap0 ≤ maxLen ∧ z0.length = cap0 ∧ (∀ i, i < z0.length → w.cell? (x.add i) = some (.int .u8 (z0.getD i 0))) ∧ ∀ n ∈ z0, (Lit.int .u8 n).wf = true) (y0 : len0 * 1 ≤ 140737488351232) (w1 : (a1 = none ∧ len1 = 0 ∧ cap1 = 0 ∧ z1 = []) ∨ ∃ x, a1 = some x ∧ len1 ≤ cap1 ∧ cap1 ≤ maxLen ∧ z1.length = cap1 ∧ (∀ i, i < z1.length → w.cell? (x.add i) = some (.int .u8 (z1.getD i 0))) ∧ ∀ n ∈ z1, (Lit.int .u8 n).wf = true) (y1 : len1 * 1 ≤ 140737488351232) :
    Calls Try.prog 11 #[.slice a0 len0 cap0, .slice a1 len1 cap1] w fun e w' => e = .returned (.bool true) ∧ Below w.heap.size w w' := by
  obtain ⟨l0, rfl, hr0, hm0, hw0, hc0⟩ := ReadsInt.ofRowC w0
  obtain ⟨l1, rfl, hr1, hm1, hw1, hc1⟩ := ReadsInt.ofRowC w1
  obtain ⟨k, h⟩ := P l0 l1 hm0 y0 hw0 hm1 y1 hw1
  refine (laws_FnWalkCost.calls k _ _ l0 _ _ l1 true w (Kd.C_of_reads (d := (0 : Int)) (h1 := fun _ => rfl) hr0) hc0 (Kd.C_of_reads (d := (0 : Int)) (h1 := fun _ => rfl) hr1) hc1 h).mono ?_
  rintro e w' ⟨rfl, hd⟩
  exact ⟨rfl, hd⟩

end Go.Proofs.Ytpjmkghmjpbldaa.Print
