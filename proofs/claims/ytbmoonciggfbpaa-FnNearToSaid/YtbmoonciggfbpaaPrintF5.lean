-- Made by this session's own program (wip/patch_print.py, over the kit's print). Lean checks it.
import Derived.Test.YtbmoonciggfbpaaPrint0
import Derived.Test.YtbmoonciggfbpaaPrintB
import Derived.Test.YtbmoonciggfbpaaPrintF14
import Derived.Test.YtbmoonciggfbpaaPrintF17
import Derived.Test.YtbmoonciggfbpaaPrintF18
import Derived.Test.YtbmoonciggfbpaaPrintF19
import Derived.Test.YtbmoonciggfbpaaPrintF20
namespace Go.Proofs.Ytbmoonciggfbpaa.Print
open Go.RowKit Go.Proofs.YtbmoonciggfbpaaW.PrintWords Go.Proofs.YtbmoonciggfbpaaW.PrintLast Go.Proofs.YtbmoonciggfbpaaW.PrintMore Go.Proofs.YtbmoonciggfbpaaX
attribute [local go_sem] max2_int min2_int max_two min_two max_three min_three max_four min_four   -- for this text's walks alone
set_option linter.unusedVariables false
set_option linter.unusedSimpArgs false

abbrev z5_0 : Array Bool := #[false, false, false, false, false, false, false, false, false, false, false]
abbrev z5_1 : Array Bool := #[false, true, false, false, false, false, false, false, false, false, false]
abbrev z5_2 : Array Bool := #[false, true, false, true, false, false, false, false, false, false, false]
abbrev z5_3 : Array Bool := #[false, true, false, true, false, false, true, false, false, false, false]
abbrev z5_4 : Array Bool := #[false, true, false, true, false, false, true, true, false, false, false]
abbrev z5_5 : Array Bool := #[false, true, false, true, false, false, true, true, true, false, false]
abbrev z5_6 : Array Bool := #[true, true, false, true, false, false, true, true, true, false, false]
abbrev z5_7 : Array Bool := #[true, true, false, true, false, false, true, true, true, true, false]
abbrev z5_8 : Array Bool := #[true, true, true, true, false, false, true, true, true, true, false]
abbrev z5_9 : Array Bool := #[true, true, true, true, true, false, true, true, true, true, false]
abbrev z5_10 : Array Bool := #[true, true, true, true, true, true, true, true, true, true, false]
abbrev z5_11 : Array Bool := #[true, true, true, true, true, true, true, true, true, true, true]
abbrev rR5 := @Kd.R_reads'
/-! ### laws_FnNearTo: function 5 -/
mutual
def laws_FnNearTo.j0 : Nat → Int → List Int → Bool → Int → List (S33) → Option (Bool)
  | 0, _, _, _, _, _ => none
  | k + 1, x4, x5, x28, x402000, x402001 => if x28 = true then ((spec_NearTo.f k x402000 x402001 x4).bind fun t409 => ((laws_wkInts.f k x5 t409).bind fun t412 => (some t412))) else (laws_FnNearTo.l0 k x4 x5 0 x402000 x402001)
def laws_FnNearTo.l0 : Nat → Int → List Int → Int → Int → List (S33) → Option (Bool)
  | 0, _, _, _, _, _ => none
  | k + 1, x4, x5, x6, x402000, x402001 => if x6 < x402000 then ((impl_NearAll.f k x402000 x402001 x6).bind fun t413 => (if 0 ≤ x4 then (if x4 < (t413.length : Int) then (if 0 ≤ x6 then (if x6 < (x5.length : Int) then (if (rd t413 x4) = (rd x5 x6) then (laws_FnNearTo.l0 k x4 x5 (wrap64 (x6 + 1)) x402000 x402001) else (some false)) else (none)) else (none)) else (none)) else (none))) else ((impl_NetBack.f k x402000 x402001).bind fun bt418 => ((impl_NearAll.f k bt418.1 bt418.2 x4).bind fun t422 => ((laws_wkInts.f k t422 x5).bind fun t425 => (some t425))))
end
def laws_FnNearTo.f (k : Nat) (l0 : List Int) : Option (Bool) := if (l0.length : Int) > 1048576 then (some true) else ((spec_DrawNearTo.f k l0).bind fun bt396 => ((impl_NearTo.f k bt396.1 bt396.2.1 bt396.2.2).bind fun t402 => ((spec_NearTo.f k bt396.1 bt396.2.1 bt396.2.2).bind fun t405 => ((laws_wkInts.f k t402 t405).bind fun t408 => (if t408 = true then (laws_FnNearTo.j0 k bt396.2.2 t402 ((t402.length : Int) == 0) bt396.1 bt396.2.1) else (laws_FnNearTo.j0 k bt396.2.2 t402 true bt396.1 bt396.2.1))))))
theorem laws_FnNearTo.mono_l : ∀ k, (∀ y0 y1 y2 y3 y4, LeO (laws_FnNearTo.j0 k y0 y1 y2 y3 y4) (laws_FnNearTo.j0 (k + 1) y0 y1 y2 y3 y4)) ∧ (∀ y0 y1 y2 y3 y4, LeO (laws_FnNearTo.l0 k y0 y1 y2 y3 y4) (laws_FnNearTo.l0 (k + 1) y0 y1 y2 y3 y4))
  | 0 => ⟨fun _ _ _ _ _ r h => by simp [laws_FnNearTo.j0] at h, fun _ _ _ _ _ r h => by simp [laws_FnNearTo.l0] at h⟩
  | k + 1 => by
    obtain ⟨ih0, ih1⟩ := laws_FnNearTo.mono_l k
    refine ⟨?_, ?_⟩
    · intro y0 y1 y2 y3 y4
      unfold laws_FnNearTo.j0
      repeat' first
      | (with_reducible exact ih0 _ _ _ _ _)
      | (with_reducible exact ih1 _ _ _ _ _)
      | (with_reducible exact impl_NearAll.mono _ _ _ _)
      | (with_reducible exact impl_NearTo.mono _ _ _ _)
      | (with_reducible exact impl_NetBack.mono _ _ _)
      | (with_reducible exact laws_wkInts.mono _ _ _)
      | (with_reducible exact spec_DrawNearTo.mono _ _)
      | (with_reducible exact spec_NearTo.mono _ _ _ _)
      | (with_reducible exact LeO.refl _)
      | (with_reducible exact LeO.none _)
      | (with_reducible refine LeO.ite ?_ ?_)
      | (with_reducible refine LeO.bind ?_ (fun _ => ?_))
      | exact ih0 _ _ _ _ _
      | exact ih1 _ _ _ _ _
      | exact impl_NearAll.mono _ _ _ _
      | exact impl_NearTo.mono _ _ _ _
      | exact impl_NetBack.mono _ _ _
      | exact laws_wkInts.mono _ _ _
      | exact spec_DrawNearTo.mono _ _
      | exact spec_NearTo.mono _ _ _ _
      | exact LeO.none _
      | refine LeO.ite ?_ ?_
      | refine LeO.bind ?_ (fun _ => ?_)
    · intro y0 y1 y2 y3 y4
      unfold laws_FnNearTo.l0
      repeat' first
      | (with_reducible exact ih0 _ _ _ _ _)
      | (with_reducible exact ih1 _ _ _ _ _)
      | (with_reducible exact impl_NearAll.mono _ _ _ _)
      | (with_reducible exact impl_NearTo.mono _ _ _ _)
      | (with_reducible exact impl_NetBack.mono _ _ _)
      | (with_reducible exact laws_wkInts.mono _ _ _)
      | (with_reducible exact spec_DrawNearTo.mono _ _)
      | (with_reducible exact spec_NearTo.mono _ _ _ _)
      | (with_reducible exact LeO.refl _)
      | (with_reducible exact LeO.none _)
      | (with_reducible refine LeO.ite ?_ ?_)
      | (with_reducible refine LeO.bind ?_ (fun _ => ?_))
      | exact ih0 _ _ _ _ _
      | exact ih1 _ _ _ _ _
      | exact impl_NearAll.mono _ _ _ _
      | exact impl_NearTo.mono _ _ _ _
      | exact impl_NetBack.mono _ _ _
      | exact laws_wkInts.mono _ _ _
      | exact spec_DrawNearTo.mono _ _
      | exact spec_NearTo.mono _ _ _ _
      | exact LeO.none _
      | refine LeO.ite ?_ ?_
      | refine LeO.bind ?_ (fun _ => ?_)
theorem laws_FnNearTo.mono : ∀ a0 k, LeO (laws_FnNearTo.f k a0) (laws_FnNearTo.f (k + 1) a0) := by
  intro a0 k
  obtain ⟨ih0, ih1⟩ := laws_FnNearTo.mono_l k
  unfold laws_FnNearTo.f
  repeat' first
      | (with_reducible exact ih0 _ _ _ _ _)
      | (with_reducible exact ih1 _ _ _ _ _)
      | (with_reducible exact impl_NearAll.mono _ _ _ _)
      | (with_reducible exact impl_NearTo.mono _ _ _ _)
      | (with_reducible exact impl_NetBack.mono _ _ _)
      | (with_reducible exact laws_wkInts.mono _ _ _)
      | (with_reducible exact spec_DrawNearTo.mono _ _)
      | (with_reducible exact spec_NearTo.mono _ _ _ _)
      | (with_reducible exact LeO.refl _)
      | (with_reducible exact LeO.none _)
      | (with_reducible refine LeO.ite ?_ ?_)
      | (with_reducible refine LeO.bind ?_ (fun _ => ?_))
      | exact ih0 _ _ _ _ _
      | exact ih1 _ _ _ _ _
      | exact impl_NearAll.mono _ _ _ _
      | exact impl_NearTo.mono _ _ _ _
      | exact impl_NetBack.mono _ _ _
      | exact laws_wkInts.mono _ _ _
      | exact spec_DrawNearTo.mono _ _
      | exact spec_NearTo.mono _ _ _ _
      | exact LeO.none _
      | refine LeO.ite ?_ ?_
      | refine LeO.bind ?_ (fun _ => ?_)
def laws_FnNearTo.T10 : Bool × List (List Nat × List Nat) := (true, [([], []), ([], []), ([0, 1], [0, 1]), ([], []), ([2, 3], [2, 3]), ([4], [4]), ([], []), ([], []), ([6, 7], [6, 7]), ([8], [8]), ([5, 9], [5, 9])])
def laws_FnNearTo.B10 : List Nat := [0, 0, 3, 0, 15, 31, 0, 0, 192, 448, 1023]
theorem laws_FnNearTo.tab10 : rtab .any (opsOf Try.f5 10) = laws_FnNearTo.T10 := by kernel_rfl
theorem laws_FnNearTo.bits10 : waitsOk laws_FnNearTo.T10.2 laws_FnNearTo.B10 = true := by kernel_rfl
set_option maxHeartbeats 8000000 in
set_option maxRecDepth 100000 in
theorem laws_FnNearTo.calls (k : Nat) (A0 : Option Addr) (c0 : Nat) (l0 : List Int) (r : Bool) (w : World) (hr0 : Kd.C (Kd.int .u8) w A0 l0.length l0) (hc0 : l0.length ≤ c0) (h : laws_FnNearTo.f k l0 = some r) :
    Calls Try.prog 5 #[.slice A0 l0.length c0] w fun e w' => e = .returned (.bool r) ∧ Below w.heap.size w w' := by
  have hu25 := Try.underlying25
  have HR0 := Aside0.mk hr0
  have HC0 := Aside0.mk hc0
  clear hr0 hc0
  have HB := Aside0.mk (Below.refl w.heap.size w)
  have H : (if (l0.length : Int) > 1048576 then (some true) else ((spec_DrawNearTo.f k l0).bind fun bt396 => ((impl_NearTo.f k bt396.1 bt396.2.1 bt396.2.2).bind fun t402 => ((spec_NearTo.f k bt396.1 bt396.2.1 bt396.2.2).bind fun t405 => ((laws_wkInts.f k t402 t405).bind fun t408 => (if t408 = true then (laws_FnNearTo.j0 k bt396.2.2 t402 ((t402.length : Int) == 0) bt396.1 bt396.2.1) else (laws_FnNearTo.j0 k bt396.2.2 t402 true bt396.1 bt396.2.1))))))) = some r := h
  clear h
  by_cases c2 : (l0.length : Int) > 1048576
  ·rw [if_pos c2] at H
   have c2b0 : decide (1048576 < (l0.length : Int)) = true := decide_eq_true c2
   have c2b1 : decide (1048576 < l0.length) = true := decide_eq_true (by omega)
   clear c2
   obtain rfl := Option.some.inj H
   go_enter Try.func5, Try.ntmps5
   go_wp2
   go_ret
   exact ⟨by first | rfl | (simp [errW_none, errW_some] <;> rfl) | (simp [*, errW_none, errW_some] <;> rfl), by repeat (first | (with_reducible first | exact HB.out | apply below_alloc | apply pw_below_drewN | apply below_drew1) | exact HB.out)⟩
  ·rw [if_neg c2] at H
   have c2b0 : decide (1048576 < (l0.length : Int)) = false := decide_eq_false c2
   have c2b1 : decide (1048576 < l0.length) = false := decide_eq_false (by omega)
   clear c2
   replace H := Option.bind_eq_some_iff.mp H
   obtain ⟨⟨t396, t397, t400⟩, A30, H⟩ := H
   replace H : ((impl_NearTo.f k t396 t397 t400).bind fun t402 => ((spec_NearTo.f k t396 t397 t400).bind fun t405 => ((laws_wkInts.f k t402 t405).bind fun t408 => (if t408 = true then (laws_FnNearTo.j0 k t400 t402 ((t402.length : Int) == 0) t396 t397) else (laws_FnNearTo.j0 k t400 t402 true t396 t397))))) = some r := H
   have A3 := Aside0.mk A30
   clear A30
   replace H := Option.bind_eq_some_iff.mp H
   obtain ⟨t402, A40, H⟩ := H
   replace H : ((spec_NearTo.f k t396 t397 t400).bind fun t405 => ((laws_wkInts.f k t402 t405).bind fun t408 => (if t408 = true then (laws_FnNearTo.j0 k t400 t402 ((t402.length : Int) == 0) t396 t397) else (laws_FnNearTo.j0 k t400 t402 true t396 t397)))) = some r := H
   have A4 := Aside0.mk A40
   clear A40
   have HC5 := Aside0.mk H
   clear H
   go_enter Try.func5, Try.ntmps5
   go_upto_region 5 with (first | ((with_reducible refine gate_callee (f := 17) rfl ?_); refine goesL_ (some 12) rfl rfl Try.func17 (by kernel_rfl) rfl #[.slice A0 l0.length c0] rfl na_ ?_; (with_reducible refine (spec_DrawNearTo.calls k _ _ l0 t396 t397 t400 _ ?side1 ?side2 A3.out).mono ?_); (case side1 => repeat (first | exact HR0.out | (with_reducible refine Kd.C_alloc ?_ _) | (with_reducible refine Kd.C_drewN ?_ _) | (with_reducible refine Kd.C_drew ?_))); (case side2 => exact HC0.out); rintro e w6 ⟨v398, rfl, ho0, hb⟩; refine ⟨_, rfl, ?_⟩; have n0_ := Aside0.mk (Kd.R_lower ho0 (below_size (ne_ HB.out))); have n1_ := Aside0.mk (below_step (ne_ HB.out) hb); clear HB; have HO399 := n0_; have HB := n1_; clear n0_ n1_; (try clear hb); (try clear hb2); (try clear hk); (try clear hi); (try clear ho0)) | ((with_reducible refine gate_dst (N := 3) rfl ?_); (try (refine gate_guard (by rfl) ?_; dsimp only)); refine box_event ?hg (N := 3) ?hd (cs := #[.int .i64 0, .slice none 0 0]) (t := 25) ?hr ?_; (case hd => rfl); (case hg => rfl); (case hr => first | (go_simp; done) | (go_simp; rfl)); intro gb401 hg w7 hbox hb; have n0_ := Aside0.mk (Kd.R_below (nr_ HO399.out) hb); have n1_ := Aside0.mk (below_step (ne_ HB.out) hb); have n2_ := Aside0.mk (hbox); have n3_ := Aside0.mk ((by rw [hg]; exact (below_size (ne_ HB.out)) : w.heap.size ≤ gb401)); have n4_ := Aside0.mk ((by rw [hg]; exact (below_size (ne_ HB.out)) : w.heap.size ≤ gb401)); clear HO399; clear HB; have HO399 := n0_; have HB := n1_; have BK401 := n2_; have GW401 := n3_; have GE401 := n4_; clear n0_ n1_ n2_ n3_ n4_; clear hb hbox hg; have hcz8_0 : w7.cell? ⟨gb401, 0, none⟩ = some (.int .i64 0) := (blk_cell BK401.out 0).trans rfl; have hcz8_1 : w7.cell? ⟨gb401, 1, none⟩ = some (.slice none 0 0) := (blk_cell BK401.out 1).trans rfl; have hfz8_0 := blk_frozen BK401.out 0; have hfz8_1 := blk_frozen BK401.out 1; obtain ⟨Ao9, co9, eo9⟩ := Kd.R_slice HO399.out; subst eo9) | ((with_reducible refine gate_callee (f := 18) rfl ?_); refine goesL_ (some 17) rfl rfl Try.func18 (by kernel_rfl) rfl #[.agg #[.int .i64 t396, .slice Ao9 t397.length co9], .int .i64 t400] rfl na_ ?_; (with_reducible refine (impl_NearTo.calls k t396 _ _ t397 t400 t402 _ ?side1 ?side2 A4.out).mono ?_); (case side1 => refine (rR5 (e := 33) (base := w.heap.size) (ok := fun k_ => True) (n := t397.length) (c := co9) ?_).2.2; exact (by (with_reducible repeat (first | apply Kd.R_alloc | apply Kd.R_drewN | apply Kd.R_drew)); exact (Kd.R_mono (Kd.R_far (p := ⟨gb401, 1, none⟩) (Kd.R_far (p := ⟨gb401, 0, none⟩) (Kd.R_types HO399.out BK401.out (by decide)) (fun _ hk => hk.2) (.int .i64 t396)) (fun _ hk => hk.2) (.slice Ao9 t397.length co9)) (fun _ h_ => h_.1)))); (case side2 => exact (rR5 HO399.out).2.1); rintro e w10 ⟨v403, rfl, ho0, hb⟩; refine ⟨_, rfl, ?_⟩; have n0_ := Aside0.mk (Kd.R_below (by (with_reducible repeat (first | apply Kd.R_alloc | apply Kd.R_drewN | apply Kd.R_drew)); exact (Kd.R_mono (Kd.R_far (p := ⟨gb401, 1, none⟩) (Kd.R_far (p := ⟨gb401, 0, none⟩) (Kd.R_types HO399.out BK401.out (by decide)) (fun _ hk => hk.2) (.int .i64 t396)) (fun _ hk => hk.2) (.slice Ao9 t397.length co9)) (fun _ h_ => h_.1))) hb); have n1_ := Aside0.mk (Kd.R_lower ho0 (below_size (ne_ HB.out))); have n2_ := Aside0.mk (blk_below (g := gb401) (o := .cells #[.int .i64 t396, .slice Ao9 t397.length co9] 25 (0, 0)) (by (with_reducible repeat (first | refine blk_drewN ?_ _ | refine blk_drew ?_ | refine blk_alloc ?_ _)); refine blk_put (cs := #[.int .i64 t396, .slice none 0 0]) ?_ 1 _ rfl; (with_reducible repeat (first | refine blk_drewN ?_ _ | refine blk_drew ?_ | refine blk_alloc ?_ _)); refine blk_put (cs := #[.int .i64 0, .slice none 0 0]) ?_ 0 _ rfl; (with_reducible repeat (first | refine blk_drewN ?_ _ | refine blk_drew ?_ | refine blk_alloc ?_ _)); exact BK401.out) hb); have n3_ := Aside0.mk (below_step (ne_ HB.out) hb); clear HO399; clear BK401; clear HB; have HO399 := n0_; have HO404 := n1_; have BK401 := n2_; have HB := n3_; clear n0_ n1_ n2_ n3_; (try clear hb); (try clear hb2); (try clear hk); (try clear hi); (try clear ho0)))
   (try simp only [Act.put, List.setIfInBounds_toArray, List.set_cons_zero, List.set_cons_succ])
   go_cut [28] (fun v28 wc => ∃ (kq : Nat) (x28_4 : Bool), v28 = .bool x28_4 ∧ Aside0 (laws_FnNearTo.j0 kq t400 t402 x28_4 t396 t397 = some r) ∧ Aside0 (kq ≤ k) ∧ Aside0 (Kd.R (Kd.int .i64) 3 wc w.heap.size (fun _ => True) v403 t402) ∧ Aside0 (Kd.R k33 33 wc w.heap.size (fun _ => True) (.slice Ao9 t397.length co9) t397) ∧ Aside0 (wc.heap[gb401]? = some (.cells #[.int .i64 t396, (.slice Ao9 t397.length co9)] 25 (0, 0))) ∧ Aside0 (Below w.heap.size w wc))
   case first =>
    have H := HC5.out
    clear HC5
    replace H := Option.bind_eq_some_iff.mp H
    obtain ⟨t405, A110, H⟩ := H
    replace H : ((laws_wkInts.f k t402 t405).bind fun t408 => (if t408 = true then (laws_FnNearTo.j0 k t400 t402 ((t402.length : Int) == 0) t396 t397) else (laws_FnNearTo.j0 k t400 t402 true t396 t397))) = some r := H
    have A11 := Aside0.mk A110
    clear A110
    replace H := Option.bind_eq_some_iff.mp H
    obtain ⟨t408, A120, H⟩ := H
    replace H : (if t408 = true then (laws_FnNearTo.j0 k t400 t402 ((t402.length : Int) == 0) t396 t397) else (laws_FnNearTo.j0 k t400 t402 true t396 t397)) = some r := H
    have A12 := Aside0.mk A120
    clear A120
    by_cases c13 : t408 = true
    ·subst c13
     have H1 : (laws_FnNearTo.j0 k t400 t402 ((t402.length : Int) == 0) t396 t397) = some r := by rw [if_pos rfl] at H; exact H
     clear H
     have H := H1
     clear H1
     have H' := Aside0.mk H
     clear H
     have hcz14_0 : w10.cell? ⟨gb401, 0, none⟩ = some (.int .i64 t396) := (blk_cell BK401.out 0).trans rfl
     have hcz14_1 : w10.cell? ⟨gb401, 1, none⟩ = some (.slice Ao9 t397.length co9) := (blk_cell BK401.out 1).trans rfl
     have hfz14_0 := blk_frozen BK401.out 0
     have hfz14_1 := blk_frozen BK401.out 1
     go_wp2_with (first | ((with_reducible refine gate_callee (f := 19) rfl ?_); refine goesL_ (some 21) rfl rfl Try.func19 (by kernel_rfl) rfl #[.agg #[.int .i64 t396, .slice Ao9 t397.length co9], .int .i64 t400] rfl na_ ?_; (with_reducible refine (spec_NearTo.calls k t396 _ _ t397 t400 t405 _ ?side1 ?side2 A11.out).mono ?_); (case side1 => exact nc_ (rR5 HO399.out).2.2); (case side2 => exact (rR5 HO399.out).2.1); rintro e w15 ⟨v406, rfl, ho0, hb⟩; refine ⟨_, rfl, ?_⟩; have n0_ := Aside0.mk (Kd.R_below (nr_ HO399.out) hb); have n1_ := Aside0.mk (Kd.R_elder' (nr_ HO404.out) (Kd.R_base ho0) hb); have n2_ := Aside0.mk (Kd.R_lower (Kd.R_new' ho0 (Kd.R_lt (nr_ HO404.out))) (below_size (ne_ HB.out))); have n3_ := Aside0.mk (blk_below (g := gb401) (o := .cells #[.int .i64 t396, .slice Ao9 t397.length co9] 25 (0, 0)) (nb_ BK401.out) hb); have n4_ := Aside0.mk (below_step (ne_ HB.out) hb); clear HO399; clear HO404; clear BK401; clear HB; have HO399 := n0_; have HO404 := n1_; have HO407 := n2_; have BK401 := n3_; have HB := n4_; clear n0_ n1_ n2_ n3_ n4_; (try clear hb); (try clear hb2); (try clear hk); (try clear hi); (try clear ho0); obtain ⟨Ao16, co16, eo16⟩ := Kd.R_slice HO404.out; subst eo16; obtain ⟨Ao17, co17, eo17⟩ := Kd.R_slice HO407.out; subst eo17) | ((with_reducible refine gate_callee (f := 15) rfl ?_); refine goesL_ (some 22) rfl rfl Try.func15 (by kernel_rfl) rfl #[.slice Ao16 t402.length co16, .slice Ao17 t405.length co17] rfl na_ ?_; (with_reducible refine (laws_wkInts.calls k _ _ t402 _ _ t405 true _ ?side1 ?side2 ?side3 ?side4 A12.out).mono ?_); (case side1 => exact nc_ (rR5 HO404.out).2.2); (case side2 => exact (rR5 HO404.out).2.1); (case side3 => exact nc_ (rR5 HO407.out).2.2); (case side4 => exact (rR5 HO407.out).2.1); rintro e w' ⟨rfl, ⟨nd, rfl⟩⟩; refine ⟨_, rfl, ?_⟩))
     go_meet
     case rel => exact ⟨_, (((t402.length : Int) == 0)), ns_, H', ⟨by first | omega | exact Nat.le_refl _⟩, ⟨by (with_reducible repeat (first | apply Kd.R_alloc | apply Kd.R_drewN | apply Kd.R_drew)); exact Kd.R_mono HO404.out (fun _ hk => trivial)⟩, ⟨by (with_reducible repeat (first | apply Kd.R_alloc | apply Kd.R_drewN | apply Kd.R_drew)); exact HO399.out⟩, ⟨by (with_reducible repeat (first | refine blk_drewN ?_ _ | refine blk_drew ?_ | refine blk_alloc ?_ _)); exact BK401.out⟩, ⟨by repeat (first | (with_reducible first | exact HB.out | apply below_alloc | apply pw_below_drewN | apply below_drew1 | refine below_set ?_ GE401.out) | exact HB.out)⟩⟩
    ·replace c13 := Bool.eq_false_iff.mpr c13
     subst c13
     have H1 : (laws_FnNearTo.j0 k t400 t402 true t396 t397) = some r := by rw [if_neg (show ¬ (false = true) by decide)] at H; exact H
     clear H
     have H := H1
     clear H1
     have H' := Aside0.mk H
     clear H
     have hcz18_0 : w10.cell? ⟨gb401, 0, none⟩ = some (.int .i64 t396) := (blk_cell BK401.out 0).trans rfl
     have hcz18_1 : w10.cell? ⟨gb401, 1, none⟩ = some (.slice Ao9 t397.length co9) := (blk_cell BK401.out 1).trans rfl
     have hfz18_0 := blk_frozen BK401.out 0
     have hfz18_1 := blk_frozen BK401.out 1
     go_wp2_with (first | ((with_reducible refine gate_callee (f := 19) rfl ?_); refine goesL_ (some 21) rfl rfl Try.func19 (by kernel_rfl) rfl #[.agg #[.int .i64 t396, .slice Ao9 t397.length co9], .int .i64 t400] rfl na_ ?_; (with_reducible refine (spec_NearTo.calls k t396 _ _ t397 t400 t405 _ ?side1 ?side2 A11.out).mono ?_); (case side1 => exact nc_ (rR5 HO399.out).2.2); (case side2 => exact (rR5 HO399.out).2.1); rintro e w19 ⟨v406, rfl, ho0, hb⟩; refine ⟨_, rfl, ?_⟩; have n0_ := Aside0.mk (Kd.R_below (nr_ HO399.out) hb); have n1_ := Aside0.mk (Kd.R_elder' (nr_ HO404.out) (Kd.R_base ho0) hb); have n2_ := Aside0.mk (Kd.R_lower (Kd.R_new' ho0 (Kd.R_lt (nr_ HO404.out))) (below_size (ne_ HB.out))); have n3_ := Aside0.mk (blk_below (g := gb401) (o := .cells #[.int .i64 t396, .slice Ao9 t397.length co9] 25 (0, 0)) (nb_ BK401.out) hb); have n4_ := Aside0.mk (below_step (ne_ HB.out) hb); clear HO399; clear HO404; clear BK401; clear HB; have HO399 := n0_; have HO404 := n1_; have HO407 := n2_; have BK401 := n3_; have HB := n4_; clear n0_ n1_ n2_ n3_ n4_; (try clear hb); (try clear hb2); (try clear hk); (try clear hi); (try clear ho0); obtain ⟨Ao20, co20, eo20⟩ := Kd.R_slice HO404.out; subst eo20; obtain ⟨Ao21, co21, eo21⟩ := Kd.R_slice HO407.out; subst eo21) | ((with_reducible refine gate_callee (f := 15) rfl ?_); refine goesL_ (some 22) rfl rfl Try.func15 (by kernel_rfl) rfl #[.slice Ao20 t402.length co20, .slice Ao21 t405.length co21] rfl na_ ?_; (with_reducible refine (laws_wkInts.calls k _ _ t402 _ _ t405 false _ ?side1 ?side2 ?side3 ?side4 A12.out).mono ?_); (case side1 => exact nc_ (rR5 HO404.out).2.2); (case side2 => exact (rR5 HO404.out).2.1); (case side3 => exact nc_ (rR5 HO407.out).2.2); (case side4 => exact (rR5 HO407.out).2.1); rintro e w' ⟨rfl, ⟨nd, rfl⟩⟩; refine ⟨_, rfl, ?_⟩))
     go_meet
     case rel => exact ⟨_, (true), ns_, H', ⟨by first | omega | exact Nat.le_refl _⟩, ⟨by (with_reducible repeat (first | apply Kd.R_alloc | apply Kd.R_drewN | apply Kd.R_drew)); exact Kd.R_mono HO404.out (fun _ hk => trivial)⟩, ⟨by (with_reducible repeat (first | apply Kd.R_alloc | apply Kd.R_drewN | apply Kd.R_drew)); exact HO399.out⟩, ⟨by (with_reducible repeat (first | refine blk_drewN ?_ _ | refine blk_drew ?_ | refine blk_alloc ?_ _)); exact BK401.out⟩, ⟨by repeat (first | (with_reducible first | exact HB.out | apply below_alloc | apply pw_below_drewN | apply below_drew1 | refine below_set ?_ GE401.out) | exact HB.out)⟩⟩
   case rest =>
    clear HC5
    try clear c1
    try clear c2
    try clear c2b0
    try clear c2b1
    try clear p2
    try clear c5
    try clear c13
    try clear c15
    try clear c17
    try clear c18
    try clear c19
    try clear hcz14_0
    try clear hcz14_1
    try clear hcz18_0
    try clear hcz18_1
    try clear hcz8_0
    try clear hcz8_1
    try clear hfz14_0
    try clear hfz14_1
    try clear hfz18_0
    try clear hfz18_1
    try clear hfz8_0
    try clear hfz8_1
    obtain ⟨kq, x28_4, rfl, HA, HJ4, HO_5, HO_402001, BK401, HB⟩ := hcut
    cases kq with
    | zero => exact absurd HA.out (by simp [laws_FnNearTo.j0])
    | succ kj4 =>
     have H := HA.out
     clear HA
     simp only [laws_FnNearTo.j0] at H
     by_cases c22 : x28_4 = true
     ·subst c22
      have H1 : ((spec_NearTo.f kj4 t396 t397 t400).bind fun t409 => ((laws_wkInts.f kj4 t402 t409).bind fun t412 => (some t412))) = some r := by rw [if_pos rfl] at H; exact H
      clear H
      have H := H1
      clear H1
      replace H := Option.bind_eq_some_iff.mp H
      obtain ⟨t409, A230, H⟩ := H
      replace H : ((laws_wkInts.f kj4 t402 t409).bind fun t412 => (some t412)) = some r := H
      have A23 := Aside0.mk A230
      clear A230
      replace H := Option.bind_eq_some_iff.mp H
      obtain ⟨t412, A240, H⟩ := H
      replace H : (some t412) = some r := H
      have A24 := Aside0.mk A240
      clear A240
      obtain rfl := Option.some.inj H
      have hcz25_0 : wc.cell? ⟨gb401, 0, none⟩ = some (.int .i64 t396) := (blk_cell BK401.out 0).trans rfl
      have hcz25_1 : wc.cell? ⟨gb401, 1, none⟩ = some (.slice Ao9 t397.length co9) := (blk_cell BK401.out 1).trans rfl
      have hfz25_0 := blk_frozen BK401.out 0
      have hfz25_1 := blk_frozen BK401.out 1
      go_wp2_with (first | ((with_reducible refine gate_callee (f := 19) rfl ?_); refine goesL_ (some 32) rfl rfl Try.func19 (by kernel_rfl) rfl #[.agg #[.int .i64 t396, .slice Ao9 t397.length co9], .int .i64 t400] rfl na_ ?_; (with_reducible refine (spec_NearTo.calls kj4 t396 _ _ t397 t400 t409 _ ?side1 ?side2 A23.out).mono ?_); (case side1 => exact nc_ (rR5 HO_402001.out).2.2); (case side2 => exact (rR5 HO_402001.out).2.1); rintro e w26 ⟨v410, rfl, ho0, hb⟩; refine ⟨_, rfl, ?_⟩; have n0_ := Aside0.mk (Kd.R_elder' (nr_ HO_5.out) (Kd.R_base ho0) hb); have n1_ := Aside0.mk (Kd.R_below (nr_ HO_402001.out) hb); have n2_ := Aside0.mk (Kd.R_lower (Kd.R_new' ho0 (Kd.R_lt (nr_ HO_5.out))) (below_size (ne_ HB.out))); have n3_ := Aside0.mk (blk_below (g := gb401) (o := .cells #[.int .i64 t396, .slice Ao9 t397.length co9] 25 (0, 0)) (nb_ BK401.out) hb); have n4_ := Aside0.mk (below_step (ne_ HB.out) hb); clear HO_5; clear HO_402001; clear BK401; clear HB; have HO_5 := n0_; have HO_402001 := n1_; have HO411 := n2_; have BK401 := n3_; have HB := n4_; clear n0_ n1_ n2_ n3_ n4_; (try clear hb); (try clear hb2); (try clear hk); (try clear hi); (try clear ho0); obtain ⟨Ao27, co27, eo27⟩ := Kd.R_slice HO_5.out; subst eo27; obtain ⟨Ao28, co28, eo28⟩ := Kd.R_slice HO411.out; subst eo28) | ((with_reducible refine gate_callee (f := 15) rfl ?_); refine goesL_ (some 33) rfl rfl Try.func15 (by kernel_rfl) rfl #[.slice Ao27 t402.length co27, .slice Ao28 t409.length co28] rfl na_ ?_; (with_reducible refine (laws_wkInts.calls kj4 _ _ t402 _ _ t409 t412 _ ?side1 ?side2 ?side3 ?side4 A24.out).mono ?_); (case side1 => exact nc_ (rR5 HO_5.out).2.2); (case side2 => exact (rR5 HO_5.out).2.1); (case side3 => exact nc_ (rR5 HO411.out).2.2); (case side4 => exact (rR5 HO411.out).2.1); rintro e w' ⟨rfl, ⟨nd, rfl⟩⟩; refine ⟨_, rfl, ?_⟩))
      go_ret
      exact ⟨by first | rfl | (simp [errW_none, errW_some] <;> rfl) | (simp [*, errW_none, errW_some] <;> rfl), by repeat (first | (with_reducible first | exact HB.out | apply below_alloc | apply pw_below_drewN | apply below_drew1 | refine below_set ?_ GE401.out) | exact HB.out)⟩
     ·replace c22 := Bool.eq_false_iff.mpr c22
      subst c22
      have H1 : (laws_FnNearTo.l0 kj4 t400 t402 0 t396 t397) = some r := by rw [if_neg (show ¬ (false = true) by decide)] at H; exact H
      clear H
      have H := H1
      clear H1
      have H' := Aside0.mk H
      clear H
      go_wp2
      go_loopg [6] kj4 (fun kq v6 w' => ∃ (x6_2 : Int), v6 = .int .i64 x6_2 ∧ Aside0 (laws_FnNearTo.l0 kq t400 t402 x6_2 t396 t397 = some r) ∧ Aside0 (kq ≤ kj4) ∧ Aside0 (Kd.R (Kd.int .i64) 3 w' w.heap.size (fun _ => True) v403 t402) ∧ Aside0 (Kd.R k33 33 w' w.heap.size (fun _ => True) (.slice Ao9 t397.length co9) t397) ∧ Aside0 (w'.heap[gb401]? = some (.cells #[.int .i64 t396, (.slice Ao9 t397.length co9)] 25 (0, 0))) ∧ Aside0 (Below w.heap.size w w'))
      case atStart => exact ⟨(0), ns_, H', ⟨Nat.le_refl _⟩, ⟨by (with_reducible repeat (first | apply Kd.R_alloc | apply Kd.R_drewN | apply Kd.R_drew)); exact HO_5.out⟩, ⟨by (with_reducible repeat (first | apply Kd.R_alloc | apply Kd.R_drewN | apply Kd.R_drew)); exact HO_402001.out⟩, ⟨by (with_reducible repeat (first | refine blk_drewN ?_ _ | refine blk_drew ?_ | refine blk_alloc ?_ _)); exact BK401.out⟩, ⟨by repeat (first | (with_reducible first | exact HB.out | apply below_alloc | apply pw_below_drewN | apply below_drew1 | refine below_set ?_ GE401.out) | exact HB.out)⟩⟩
      case round =>
       clear H'
       try clear c1
       try clear c2
       try clear c2b0
       try clear c2b1
       try clear p2
       try clear c5
       try clear c13
       try clear c15
       try clear c17
       try clear c18
       try clear c19
       try clear c22
       try clear hcz14_0
       try clear hcz14_1
       try clear hcz18_0
       try clear hcz18_1
       try clear hcz25_0
       try clear hcz25_1
       try clear hcz8_0
       try clear hcz8_1
       try clear hfz14_0
       try clear hfz14_1
       try clear hfz18_0
       try clear hfz18_1
       try clear hfz25_0
       try clear hfz25_1
       try clear hfz8_0
       try clear hfz8_1
       try clear p2
       obtain ⟨x6_2, rfl, HA, HK2, HO_5, HO_402001, BK401, HB⟩ := hrel
       cases gk with
       | zero => exact absurd HA.out (by simp [laws_FnNearTo.l0])
       | succ k2 =>
        have H := HA.out
        clear HA
        simp only [laws_FnNearTo.l0] at H
        by_cases c29 : x6_2 < t396
        ·rw [if_pos c29] at H
         have c29b0 : decide (x6_2 < t396) = true := decide_eq_true c29
         clear c29
         replace H := Option.bind_eq_some_iff.mp H
         obtain ⟨t413, A300, H⟩ := H
         replace H : (if 0 ≤ t400 then (if t400 < (t413.length : Int) then (if 0 ≤ x6_2 then (if x6_2 < (t402.length : Int) then (if (rd t413 t400) = (rd t402 x6_2) then (laws_FnNearTo.l0 k2 t400 t402 (wrap64 (x6_2 + 1)) t396 t397) else (some false)) else (none)) else (none)) else (none)) else (none)) = some r := H
         have A30 := Aside0.mk A300
         clear A300
         by_cases c31 : 0 ≤ t400
         ·rw [if_pos c31] at H
          have c31b0 : decide (0 ≤ t400) = true := decide_eq_true c31
          clear c31
          by_cases c32 : t400 < (t413.length : Int)
          ·rw [if_pos c32] at H
           have c32b0 : decide (t400 < (t413.length : Int)) = true := decide_eq_true c32
           clear c32
           by_cases c33 : 0 ≤ x6_2
           ·rw [if_pos c33] at H
            have c33b0 : decide (0 ≤ x6_2) = true := decide_eq_true c33
            clear c33
            by_cases c34 : x6_2 < (t402.length : Int)
            ·rw [if_pos c34] at H
             have c34b0 : decide (x6_2 < (t402.length : Int)) = true := decide_eq_true c34
             clear c34
             by_cases c35 : (rd t413 t400) = (rd t402 x6_2)
             ·rw [if_pos c35] at H
              have c35b0 : ((rd t413 t400) == (rd t402 x6_2)) = true := beq_iff_eq.mpr c35
              have c35b1 : ((rd t413 t400) != (rd t402 x6_2)) = false := bne_eq_false_iff_eq.mpr c35
              clear c35
              have H' := Aside0.mk H
              clear H
              have hcz36_0 : wr.cell? ⟨gb401, 0, none⟩ = some (.int .i64 t396) := (blk_cell BK401.out 0).trans rfl
              have hcz36_1 : wr.cell? ⟨gb401, 1, none⟩ = some (.slice Ao9 t397.length co9) := (blk_cell BK401.out 1).trans rfl
              have hfz36_0 := blk_frozen BK401.out 0
              have hfz36_1 := blk_frozen BK401.out 1
              try go_wp2
              have n0_ := Aside0.mk (Kd.R_drew HO_5.out)
              have n1_ := Aside0.mk (Kd.R_drew HO_402001.out)
              have n2_ := Aside0.mk (blk_drew BK401.out)
              have n3_ := Aside0.mk (below_drew1 HB.out)
              clear HO_5
              clear HO_402001
              clear BK401
              clear HB
              have HO_5 := n0_
              have HO_402001 := n1_
              have BK401 := n2_
              have HB := n3_
              clear n0_ n1_ n2_ n3_
              obtain ⟨Ao38, co38, eo38⟩ := Kd.R_slice HO_5.out
              (first | subst eo38 | (injection eo38 with f1_ f2_ f3_; have f4_ := f1_.symm; have f5_ := f3_.symm; clear f1_ f2_ f3_; subst f4_; subst f5_))
              have p417 : 0 ≤ (x6_2 : Int) := of_decide_eq_true nx_
              have q417 : x6_2 < (t402.length : Int) := of_decide_eq_true nx_
              obtain ⟨ad417, e417, hx417_0⟩ := Kd.at_int (rR5 HO_5.out).2.2 x6_2 p417 q417
              cases e417
              replace p417 := eq_true p417
              replace q417 := eq_true q417
              refine start_ (n := 11) (S := fun w' => w'.cell? ⟨gb401, 0, none⟩ = some (.int .i64 t396) ∧ w'.cell? ⟨gb401, 1, none⟩ = some (.slice Ao9 t397.length co9) ∧ w'.cell? (ad417.add (x6_2).toNat) = some (.int .i64 (rd t402 x6_2))) (ds := []) z5_0 (by kernel_rfl) rfl rfl ⟨(blk_cell BK401.out 0).trans rfl, (blk_cell BK401.out 1).trans rfl, hx417_0⟩ (fun hHeld => ?_); refine with_tabW laws_FnNearTo.tab10 laws_FnNearTo.bits10 (fun HT_ HW_ => ?_)
              generalize wr.drew = w37 at HO_5 HO_402001 BK401 HB hx417_0 hHeld ⊢
              refine pu_ 1 41 z5_1 HT_.out ?_
              refine pu_ 3 43 z5_2 HT_.out ?_
              refine pu_ 6 46 z5_3 HT_.out ?_
              refine pu_ 7 47 z5_4 HT_.out ?_
              refine pu_ 8 48 z5_5 HT_.out ?_
              refine tk_ 0 40 z5_6 HT_.out HW_.out hHeld ?_
              refine tk_ 9 49 z5_7 HT_.out HW_.out hHeld ?_
              refine one_ (i := 2) (N := some 42) z5_8 rfl rfl (one_of HT_.out (by kernel_rfl)) (by decide) (fun K hK => ?_)
              refine goes_ Try.func14 (by kernel_rfl) rfl #[.agg #[.int .i64 t396, .slice Ao9 t397.length co9], .int .i64 x6_2] (by rfl) rfl rfl na_ ?_
              with_reducible refine (impl_NearAll.calls k2 t396 _ _ t397 x6_2 t413 _ ?side1 ?side2 A30.out).mono ?_
              (case side1 => exact nc_ (rR5 HO_402001.out).2.2)
              (case side2 => exact (rR5 HO_402001.out).2.1)
              rintro e w39 ⟨v414, rfl, ho0, hb⟩
              have HS2_ := (hb.cell (World.block_lt_of_cell? _ _ (hHeld.2.2))).trans (hHeld.2.2)
              refine ⟨_, rfl, ?_⟩
              have n0_ := Aside0.mk (Kd.R_elder' (nr_ HO_5.out) (Kd.R_base ho0) hb)
              have n1_ := Aside0.mk (Kd.R_below (nr_ HO_402001.out) hb)
              have n2_ := Aside0.mk (Kd.R_lower (Kd.R_new' ho0 (Kd.R_lt (nr_ HO_5.out))) (below_size (ne_ HB.out)))
              have n3_ := Aside0.mk (blk_below (g := gb401) (o := .cells #[.int .i64 t396, .slice Ao9 t397.length co9] 25 (0, 0)) (nb_ BK401.out) hb)
              have n4_ := Aside0.mk (below_step (ne_ HB.out) hb)
              clear HO_5
              clear HO_402001
              clear BK401
              clear HB
              have HO_5 := n0_
              have HO_402001 := n1_
              have HO415 := n2_
              have BK401 := n3_
              have HB := n4_
              clear n0_ n1_ n2_ n3_ n4_
              (try clear hb)
              (try clear hb2)
              (try clear hk)
              (try clear hi)
              (try clear ho0)
              obtain ⟨Ao40, co40, eo40⟩ := Kd.R_slice HO415.out
              (first | subst eo40 | (injection eo40 with f1_ f2_ f3_; have f4_ := f1_.symm; have f5_ := f3_.symm; clear f1_ f2_ f3_; subst f4_; subst f5_))
              have p416 : 0 ≤ (t400 : Int) := of_decide_eq_true nx_
              have q416 : t400 < (t413.length : Int) := of_decide_eq_true nx_
              obtain ⟨ad416, e416, hx416_0⟩ := Kd.at_int (rR5 HO415.out).2.2 t400 p416 q416
              cases e416
              replace p416 := eq_true p416
              replace q416 := eq_true q416
              refine hK.out _ _ ⟨(blk_cell BK401.out 0).trans rfl, (blk_cell BK401.out 1).trans rfl, HS2_⟩ (fun hHeld => ?_)
              clear hK K
              refine norm_ (a' := ?_) ?_ ?_
              rotate_left
              ·show Act.put _ (some 42) _ = _
               simp only [Act.put, List.setIfInBounds_toArray, List.set_cons_zero, List.set_cons_succ, i64_w, i32_w]
               rfl
              refine pu_ 4 44 z5_9 HT_.out ?_
              refine one_ (i := 5) (N := some 45) z5_10 rfl rfl (one_of HT_.out (by kernel_rfl)) (by decide) (fun K hK => ?_)
              refine value_ (w1 := ?_) (v := ?_) (by rfl) rfl ?_ ?_
              rotate_left 2
              ·go_simp
               constructor
               ·rfl
               ·rfl
              refine hK.out _ _ hHeld (fun hHeld => ?_)
              clear hK K
              refine norm_ (a' := ?_) ?_ ?_
              rotate_left
              ·show Act.put _ (some 45) _ = _
               simp only [Act.put, List.setIfInBounds_toArray, List.set_cons_zero, List.set_cons_succ, i64_w, i32_w]
               rfl
              refine pu_ 10 50 z5_11 HT_.out ?_
              refine done_ (done_of HT_.out (by kernel_rfl)) ?_
              try go_wp2
              go_roundg k2
              case measure => have := HJ4.out; have := HK2.out; omega
              case rel => exact ⟨(wrap64 (x6_2 + 1)), ns_, H', ⟨by have := HJ4.out; have := HK2.out; omega⟩, ⟨by (with_reducible repeat (first | apply Kd.R_alloc | apply Kd.R_drewN | apply Kd.R_drew)); exact Kd.R_mono HO_5.out (fun _ hk => trivial)⟩, ⟨by (with_reducible repeat (first | apply Kd.R_alloc | apply Kd.R_drewN | apply Kd.R_drew)); exact HO_402001.out⟩, ⟨by (with_reducible repeat (first | refine blk_drewN ?_ _ | refine blk_drew ?_ | refine blk_alloc ?_ _)); exact BK401.out⟩, ⟨by repeat (first | (with_reducible first | exact HB.out | apply below_alloc | apply pw_below_drewN | apply below_drew1 | refine below_set ?_ GE401.out) | exact HB.out)⟩⟩
             ·rw [if_neg c35] at H
              have c35b0 : ((rd t413 t400) == (rd t402 x6_2)) = false := beq_eq_false_iff_ne.mpr c35
              have c35b1 : ((rd t413 t400) != (rd t402 x6_2)) = true := bne_iff_ne.mpr c35
              obtain rfl := Option.some.inj H
              have hcz41_0 : wr.cell? ⟨gb401, 0, none⟩ = some (.int .i64 t396) := (blk_cell BK401.out 0).trans rfl
              have hcz41_1 : wr.cell? ⟨gb401, 1, none⟩ = some (.slice Ao9 t397.length co9) := (blk_cell BK401.out 1).trans rfl
              have hfz41_0 := blk_frozen BK401.out 0
              have hfz41_1 := blk_frozen BK401.out 1
              try go_wp2
              have n0_ := Aside0.mk (Kd.R_drew HO_5.out)
              have n1_ := Aside0.mk (Kd.R_drew HO_402001.out)
              have n2_ := Aside0.mk (blk_drew BK401.out)
              have n3_ := Aside0.mk (below_drew1 HB.out)
              clear HO_5
              clear HO_402001
              clear BK401
              clear HB
              have HO_5 := n0_
              have HO_402001 := n1_
              have BK401 := n2_
              have HB := n3_
              clear n0_ n1_ n2_ n3_
              obtain ⟨Ao43, co43, eo43⟩ := Kd.R_slice HO_5.out
              (first | subst eo43 | (injection eo43 with f1_ f2_ f3_; have f4_ := f1_.symm; have f5_ := f3_.symm; clear f1_ f2_ f3_; subst f4_; subst f5_))
              have p417 : 0 ≤ (x6_2 : Int) := of_decide_eq_true nx_
              have q417 : x6_2 < (t402.length : Int) := of_decide_eq_true nx_
              obtain ⟨ad417, e417, hx417_0⟩ := Kd.at_int (rR5 HO_5.out).2.2 x6_2 p417 q417
              cases e417
              replace p417 := eq_true p417
              replace q417 := eq_true q417
              refine start_ (n := 11) (S := fun w' => w'.cell? ⟨gb401, 0, none⟩ = some (.int .i64 t396) ∧ w'.cell? ⟨gb401, 1, none⟩ = some (.slice Ao9 t397.length co9) ∧ w'.cell? (ad417.add (x6_2).toNat) = some (.int .i64 (rd t402 x6_2))) (ds := []) z5_0 (by kernel_rfl) rfl rfl ⟨(blk_cell BK401.out 0).trans rfl, (blk_cell BK401.out 1).trans rfl, hx417_0⟩ (fun hHeld => ?_); refine with_tabW laws_FnNearTo.tab10 laws_FnNearTo.bits10 (fun HT_ HW_ => ?_)
              generalize wr.drew = w42 at HO_5 HO_402001 BK401 HB hx417_0 hHeld ⊢
              refine pu_ 1 41 z5_1 HT_.out ?_
              refine pu_ 3 43 z5_2 HT_.out ?_
              refine pu_ 6 46 z5_3 HT_.out ?_
              refine pu_ 7 47 z5_4 HT_.out ?_
              refine pu_ 8 48 z5_5 HT_.out ?_
              refine tk_ 0 40 z5_6 HT_.out HW_.out hHeld ?_
              refine tk_ 9 49 z5_7 HT_.out HW_.out hHeld ?_
              refine one_ (i := 2) (N := some 42) z5_8 rfl rfl (one_of HT_.out (by kernel_rfl)) (by decide) (fun K hK => ?_)
              refine goes_ Try.func14 (by kernel_rfl) rfl #[.agg #[.int .i64 t396, .slice Ao9 t397.length co9], .int .i64 x6_2] (by rfl) rfl rfl na_ ?_
              with_reducible refine (impl_NearAll.calls k2 t396 _ _ t397 x6_2 t413 _ ?side1 ?side2 A30.out).mono ?_
              (case side1 => exact nc_ (rR5 HO_402001.out).2.2)
              (case side2 => exact (rR5 HO_402001.out).2.1)
              rintro e w44 ⟨v414, rfl, ho0, hb⟩
              have HS2_ := (hb.cell (World.block_lt_of_cell? _ _ (hHeld.2.2))).trans (hHeld.2.2)
              refine ⟨_, rfl, ?_⟩
              have n0_ := Aside0.mk (Kd.R_elder' (nr_ HO_5.out) (Kd.R_base ho0) hb)
              have n1_ := Aside0.mk (Kd.R_below (nr_ HO_402001.out) hb)
              have n2_ := Aside0.mk (Kd.R_lower (Kd.R_new' ho0 (Kd.R_lt (nr_ HO_5.out))) (below_size (ne_ HB.out)))
              have n3_ := Aside0.mk (blk_below (g := gb401) (o := .cells #[.int .i64 t396, .slice Ao9 t397.length co9] 25 (0, 0)) (nb_ BK401.out) hb)
              have n4_ := Aside0.mk (below_step (ne_ HB.out) hb)
              clear HO_5
              clear HO_402001
              clear BK401
              clear HB
              have HO_5 := n0_
              have HO_402001 := n1_
              have HO415 := n2_
              have BK401 := n3_
              have HB := n4_
              clear n0_ n1_ n2_ n3_ n4_
              (try clear hb)
              (try clear hb2)
              (try clear hk)
              (try clear hi)
              (try clear ho0)
              obtain ⟨Ao45, co45, eo45⟩ := Kd.R_slice HO415.out
              (first | subst eo45 | (injection eo45 with f1_ f2_ f3_; have f4_ := f1_.symm; have f5_ := f3_.symm; clear f1_ f2_ f3_; subst f4_; subst f5_))
              have p416 : 0 ≤ (t400 : Int) := of_decide_eq_true nx_
              have q416 : t400 < (t413.length : Int) := of_decide_eq_true nx_
              obtain ⟨ad416, e416, hx416_0⟩ := Kd.at_int (rR5 HO415.out).2.2 t400 p416 q416
              cases e416
              replace p416 := eq_true p416
              replace q416 := eq_true q416
              refine hK.out _ _ ⟨(blk_cell BK401.out 0).trans rfl, (blk_cell BK401.out 1).trans rfl, HS2_⟩ (fun hHeld => ?_)
              clear hK K
              refine norm_ (a' := ?_) ?_ ?_
              rotate_left
              ·show Act.put _ (some 42) _ = _
               simp only [Act.put, List.setIfInBounds_toArray, List.set_cons_zero, List.set_cons_succ, i64_w, i32_w]
               rfl
              refine pu_ 4 44 z5_9 HT_.out ?_
              refine one_ (i := 5) (N := some 45) z5_10 rfl rfl (one_of HT_.out (by kernel_rfl)) (by decide) (fun K hK => ?_)
              refine value_ (w1 := ?_) (v := ?_) (by rfl) rfl ?_ ?_
              rotate_left 2
              ·go_simp
               constructor
               ·rfl
               ·rfl
              refine hK.out _ _ hHeld (fun hHeld => ?_)
              clear hK K
              refine norm_ (a' := ?_) ?_ ?_
              rotate_left
              ·show Act.put _ (some 45) _ = _
               simp only [Act.put, List.setIfInBounds_toArray, List.set_cons_zero, List.set_cons_succ, i64_w, i32_w]
               rfl
              refine pu_ 10 50 z5_11 HT_.out ?_
              refine done_ (done_of HT_.out (by kernel_rfl)) ?_
              try go_wp2
              go_ret
              exact ⟨by first | rfl | (simp [errW_none, errW_some] <;> rfl) | (simp [*, errW_none, errW_some] <;> rfl), by repeat (first | (with_reducible first | exact HB.out | apply below_alloc | apply pw_below_drewN | apply below_drew1 | refine below_set ?_ GE401.out) | exact HB.out)⟩
            ·rw [if_neg c34] at H
             exact absurd H (by simp)
           ·rw [if_neg c33] at H
            exact absurd H (by simp)
          ·rw [if_neg c32] at H
           exact absurd H (by simp)
         ·rw [if_neg c31] at H
          exact absurd H (by simp)
        ·rw [if_neg c29] at H
         have c29b0 : decide (x6_2 < t396) = false := decide_eq_false c29
         clear c29
         replace H := Option.bind_eq_some_iff.mp H
         obtain ⟨⟨t418, t419⟩, A460, H⟩ := H
         replace H : ((impl_NearAll.f k2 t418 t419 t400).bind fun t422 => ((laws_wkInts.f k2 t422 t402).bind fun t425 => (some t425))) = some r := H
         have A46 := Aside0.mk A460
         clear A460
         replace H := Option.bind_eq_some_iff.mp H
         obtain ⟨t422, A470, H⟩ := H
         replace H : ((laws_wkInts.f k2 t422 t402).bind fun t425 => (some t425)) = some r := H
         have A47 := Aside0.mk A470
         clear A470
         replace H := Option.bind_eq_some_iff.mp H
         obtain ⟨t425, A480, H⟩ := H
         replace H : (some t425) = some r := H
         have A48 := Aside0.mk A480
         clear A480
         obtain rfl := Option.some.inj H
         have hcz49_0 : wr.cell? ⟨gb401, 0, none⟩ = some (.int .i64 t396) := (blk_cell BK401.out 0).trans rfl
         have hcz49_1 : wr.cell? ⟨gb401, 1, none⟩ = some (.slice Ao9 t397.length co9) := (blk_cell BK401.out 1).trans rfl
         have hfz49_0 := blk_frozen BK401.out 0
         have hfz49_1 := blk_frozen BK401.out 1
         go_wp2_with (first | ((with_reducible refine gate_callee (f := 20) rfl ?_); refine goesL_ (some 52) rfl rfl Try.func20 (by kernel_rfl) rfl #[.agg #[.int .i64 t396, .slice Ao9 t397.length co9]] rfl na_ ?_; (with_reducible refine (impl_NetBack.calls k2 t396 _ _ t397 t418 t419 _ ?side1 ?side2 A46.out).mono ?_); (case side1 => exact nc_ (rR5 HO_402001.out).2.2); (case side2 => exact (rR5 HO_402001.out).2.1); rintro e w50 ⟨v420, rfl, ho0, hb⟩; refine ⟨_, rfl, ?_⟩; have n0_ := Aside0.mk (Kd.R_below (nr_ HO_5.out) hb); have n1_ := Aside0.mk (Kd.R_elder' (nr_ HO_402001.out) (Kd.R_base ho0) hb); have n2_ := Aside0.mk (Kd.R_lower (Kd.R_new' ho0 (Kd.R_lt (nr_ HO_402001.out))) (below_size (ne_ HB.out))); have n3_ := Aside0.mk (blk_below (g := gb401) (o := .cells #[.int .i64 t396, .slice Ao9 t397.length co9] 25 (0, 0)) (nb_ BK401.out) hb); have n4_ := Aside0.mk (below_step (ne_ HB.out) hb); clear HO_5; clear HO_402001; clear BK401; clear HB; have HO_5 := n0_; have HO_402001 := n1_; have HO421 := n2_; have BK401 := n3_; have HB := n4_; clear n0_ n1_ n2_ n3_ n4_; (try clear hb); (try clear hb2); (try clear hk); (try clear hi); (try clear ho0); obtain ⟨Ao51, co51, eo51⟩ := Kd.R_slice HO421.out; subst eo51) | ((with_reducible refine gate_callee (f := 14) rfl ?_); refine goesL_ (some 54) rfl rfl Try.func14 (by kernel_rfl) rfl #[.agg #[.int .i64 t418, .slice Ao51 t419.length co51], .int .i64 t400] rfl na_ ?_; (with_reducible refine (impl_NearAll.calls k2 t418 _ _ t419 t400 t422 _ ?side1 ?side2 A47.out).mono ?_); (case side1 => exact nc_ (rR5 HO421.out).2.2); (case side2 => exact (rR5 HO421.out).2.1); rintro e w52 ⟨v423, rfl, ho0, hb⟩; refine ⟨_, rfl, ?_⟩; have n0_ := Aside0.mk (Kd.R_elder' (nr_ HO_5.out) (Kd.R_base ho0) hb); have n1_ := Aside0.mk (Kd.R_below (nr_ HO_402001.out) hb); have n2_ := Aside0.mk (Kd.R_below (nr_ HO421.out) hb); have n3_ := Aside0.mk (Kd.R_lower (Kd.R_new' ho0 (Kd.R_lt (nr_ HO_5.out))) (below_size (ne_ HB.out))); have n4_ := Aside0.mk (blk_below (g := gb401) (o := .cells #[.int .i64 t396, .slice Ao9 t397.length co9] 25 (0, 0)) (nb_ BK401.out) hb); have n5_ := Aside0.mk (below_step (ne_ HB.out) hb); clear HO_5; clear HO_402001; clear HO421; clear BK401; clear HB; have HO_5 := n0_; have HO_402001 := n1_; have HO421 := n2_; have HO424 := n3_; have BK401 := n4_; have HB := n5_; clear n0_ n1_ n2_ n3_ n4_ n5_; (try clear hb); (try clear hb2); (try clear hk); (try clear hi); (try clear ho0); obtain ⟨Ao53, co53, eo53⟩ := Kd.R_slice HO424.out; subst eo53; obtain ⟨Ao54, co54, eo54⟩ := Kd.R_slice HO_5.out; subst eo54) | ((with_reducible refine gate_callee (f := 15) rfl ?_); refine goesL_ (some 56) rfl rfl Try.func15 (by kernel_rfl) rfl #[.slice Ao53 t422.length co53, .slice Ao54 t402.length co54] rfl na_ ?_; (with_reducible refine (laws_wkInts.calls k2 _ _ t422 _ _ t402 t425 _ ?side1 ?side2 ?side3 ?side4 A48.out).mono ?_); (case side1 => exact nc_ (rR5 HO424.out).2.2); (case side2 => exact (rR5 HO424.out).2.1); (case side3 => exact nc_ (rR5 HO_5.out).2.2); (case side4 => exact (rR5 HO_5.out).2.1); rintro e w' ⟨rfl, ⟨nd, rfl⟩⟩; refine ⟨_, rfl, ?_⟩))
         go_ret
         exact ⟨by first | rfl | (simp [errW_none, errW_some] <;> rfl) | (simp [*, errW_none, errW_some] <;> rfl), by repeat (first | (with_reducible first | exact HB.out | apply below_alloc | apply pw_below_drewN | apply below_drew1 | refine below_set ?_ GE401.out) | exact HB.out)⟩

/-- THE ONE PURE STATEMENT of laws_FnNearTo: yours. -/
def laws_FnNearTo.Pure : Prop := ∀ (l0 : List Int), l0.length ≤ maxLen → l0.length * 1 ≤ 140737488351232 → (∀ x ∈ l0, (Lit.int .u8 x).wf = true) → ∃ k, laws_FnNearTo.f k l0 = some true
theorem laws_FnNearTo.walk (P : laws_FnNearTo.Pure) (a0 : Option Addr) (len0 cap0 : Nat) (z0 : List Int) (w : World) (w0 : (a0 = none ∧ len0 = 0 ∧ cap0 = 0 ∧ z0 = []) ∨ ∃ x, a0 = some x ∧ len0 ≤ cap0 ∧ cap0 ≤ maxLen ∧ z0.length = cap0 ∧ (∀ i, i < z0.length → w.cell? (x.add i) = some (.int .u8 (z0.getD i 0))) ∧ ∀ n ∈ z0, (Lit.int .u8 n).wf = true) (y0 : len0 * 1 ≤ 140737488351232) :
    Calls Try.prog 5 #[.slice a0 len0 cap0] w fun e w' => e = .returned (.bool true) ∧ Below w.heap.size w w' := by
  obtain ⟨l0, rfl, hr0, hm0, hw0, hc0⟩ := ReadsInt.ofRowC w0
  obtain ⟨k, h⟩ := P l0 hm0 y0 hw0
  refine (laws_FnNearTo.calls k _ _ l0 true w (Kd.C_of_reads (d := (0 : Int)) (h1 := fun _ => rfl) hr0) hc0 h).mono ?_
  rintro e w' ⟨rfl, hd⟩
  exact ⟨rfl, hd⟩

end Go.Proofs.Ytbmoonciggfbpaa.Print
