-- Made by this session's own program (wip/patch_print.py, over the kit's print). Lean checks it.
import Derived.Test.YtbmoonciggfbpaaPrint0
import Derived.Test.YtbmoonciggfbpaaPrintB
import Derived.Test.YtbmoonciggfbpaaPrintF13
import Derived.Test.YtbmoonciggfbpaaPrintF14
import Derived.Test.YtbmoonciggfbpaaPrintF16
namespace Go.Proofs.Ytbmoonciggfbpaa.Print
open Go.RowKit Go.Proofs.YtbmoonciggfbpaaW.PrintWords Go.Proofs.YtbmoonciggfbpaaW.PrintLast Go.Proofs.YtbmoonciggfbpaaW.PrintMore Go.Proofs.YtbmoonciggfbpaaX
attribute [local go_sem] max2_int min2_int max_two min_two max_three min_three max_four min_four   -- for this text's walks alone
set_option linter.unusedVariables false
set_option linter.unusedSimpArgs false

abbrev rR4 := @Kd.R_reads'
/-! ### laws_FnNearWay: function 4 -/
mutual
def laws_FnNearWay.j0 : Nat → List Int → List Int → Bool → Option (Bool)
  | 0, _, _, _ => none
  | k + 1, x0, x1, x18 => if x18 = true then (some true) else ((spec_DrawNearAll.f k x0).bind fun bt329 => ((impl_NearAll.f k bt329.1 bt329.2.1 bt329.2.2).bind fun t335 => ((spec_NearAll.f k bt329.1 bt329.2.1 bt329.2.2).bind fun t338 => ((laws_wkInts.f k t335 t338).bind fun t341 => (if t341 = true then (laws_FnNearWay.j1 k x1 bt329.2.2 t335 ((t335.length : Int) == 0) bt329.1 bt329.2.1) else (laws_FnNearWay.j1 k x1 bt329.2.2 t335 true bt329.1 bt329.2.1))))))
def laws_FnNearWay.j1 : Nat → List Int → Int → List Int → Bool → Int → List (S33) → Option (Bool)
  | 0, _, _, _, _, _, _ => none
  | k + 1, x1, x6, x7, x37, x335000, x335001 => if x37 = true then ((spec_NearAll.f k x335000 x335001 x6).bind fun t342 => ((laws_wkInts.f k x7 t342).bind fun t345 => (some t345))) else (if x335000 = 0 then (none) else ((impl_NearAll.f k x335000 x335001 ((x1.length : Int) % x335000)).bind fun t346 => (laws_FnNearWay.l0 k x7 ((x1.length : Int) % x335000) t346 0 x335000 x335001)))
def laws_FnNearWay.l0 : Nat → List Int → Int → List Int → Int → Int → List (S33) → Option (Bool)
  | 0, _, _, _, _, _, _ => none
  | k + 1, x7, x8, x9, x10, x335000, x335001 => if x10 < x335000 then (if 0 ≤ x8 then (if x8 < (x7.length : Int) then (if (rd x7 x8) < 99999 then (if 0 ≤ x10 then (if x10 < (x9.length : Int) then (if (rd x9 x10) < 99999 then (if x10 < (x7.length : Int) then (if (rd x7 x10) > (wrap64 ((rd x7 x8) + (rd x9 x10))) then (some false) else (laws_FnNearWay.l0 k x7 x8 x9 (wrap64 (x10 + 1)) x335000 x335001)) else (none)) else (laws_FnNearWay.l0 k x7 x8 x9 (wrap64 (x10 + 1)) x335000 x335001)) else (none)) else (none)) else (laws_FnNearWay.l0 k x7 x8 x9 (wrap64 (x10 + 1)) x335000 x335001)) else (none)) else (none)) else (some true)
end
def laws_FnNearWay.f (k : Nat) (l0 : List Int) (l1 : List Int) : Option (Bool) := if (l0.length : Int) > 1048576 then (laws_FnNearWay.j0 k l0 l1 true) else (laws_FnNearWay.j0 k l0 l1 (decide ((l1.length : Int) > 1048576)))
theorem laws_FnNearWay.mono_l : ∀ k, (∀ y0 y1 y2, LeO (laws_FnNearWay.j0 k y0 y1 y2) (laws_FnNearWay.j0 (k + 1) y0 y1 y2)) ∧ (∀ y0 y1 y2 y3 y4 y5, LeO (laws_FnNearWay.j1 k y0 y1 y2 y3 y4 y5) (laws_FnNearWay.j1 (k + 1) y0 y1 y2 y3 y4 y5)) ∧ (∀ y0 y1 y2 y3 y4 y5, LeO (laws_FnNearWay.l0 k y0 y1 y2 y3 y4 y5) (laws_FnNearWay.l0 (k + 1) y0 y1 y2 y3 y4 y5))
  | 0 => ⟨fun _ _ _ r h => by simp [laws_FnNearWay.j0] at h, fun _ _ _ _ _ _ r h => by simp [laws_FnNearWay.j1] at h, fun _ _ _ _ _ _ r h => by simp [laws_FnNearWay.l0] at h⟩
  | k + 1 => by
    obtain ⟨ih0, ih1, ih2⟩ := laws_FnNearWay.mono_l k
    refine ⟨?_, ?_, ?_⟩
    · intro y0 y1 y2
      unfold laws_FnNearWay.j0
      repeat' first
      | (with_reducible exact ih0 _ _ _)
      | (with_reducible exact ih1 _ _ _ _ _ _)
      | (with_reducible exact ih2 _ _ _ _ _ _)
      | (with_reducible exact impl_NearAll.mono _ _ _ _)
      | (with_reducible exact laws_wkInts.mono _ _ _)
      | (with_reducible exact spec_DrawNearAll.mono _ _)
      | (with_reducible exact spec_NearAll.mono _ _ _ _)
      | (with_reducible exact LeO.refl _)
      | (with_reducible exact LeO.none _)
      | (with_reducible refine LeO.ite ?_ ?_)
      | (with_reducible refine LeO.bind ?_ (fun _ => ?_))
      | exact ih0 _ _ _
      | exact ih1 _ _ _ _ _ _
      | exact ih2 _ _ _ _ _ _
      | exact impl_NearAll.mono _ _ _ _
      | exact laws_wkInts.mono _ _ _
      | exact spec_DrawNearAll.mono _ _
      | exact spec_NearAll.mono _ _ _ _
      | exact LeO.none _
      | refine LeO.ite ?_ ?_
      | refine LeO.bind ?_ (fun _ => ?_)
    · intro y0 y1 y2 y3 y4 y5
      unfold laws_FnNearWay.j1
      repeat' first
      | (with_reducible exact ih0 _ _ _)
      | (with_reducible exact ih1 _ _ _ _ _ _)
      | (with_reducible exact ih2 _ _ _ _ _ _)
      | (with_reducible exact impl_NearAll.mono _ _ _ _)
      | (with_reducible exact laws_wkInts.mono _ _ _)
      | (with_reducible exact spec_DrawNearAll.mono _ _)
      | (with_reducible exact spec_NearAll.mono _ _ _ _)
      | (with_reducible exact LeO.refl _)
      | (with_reducible exact LeO.none _)
      | (with_reducible refine LeO.ite ?_ ?_)
      | (with_reducible refine LeO.bind ?_ (fun _ => ?_))
      | exact ih0 _ _ _
      | exact ih1 _ _ _ _ _ _
      | exact ih2 _ _ _ _ _ _
      | exact impl_NearAll.mono _ _ _ _
      | exact laws_wkInts.mono _ _ _
      | exact spec_DrawNearAll.mono _ _
      | exact spec_NearAll.mono _ _ _ _
      | exact LeO.none _
      | refine LeO.ite ?_ ?_
      | refine LeO.bind ?_ (fun _ => ?_)
    · intro y0 y1 y2 y3 y4 y5
      unfold laws_FnNearWay.l0
      repeat' first
      | (with_reducible exact ih0 _ _ _)
      | (with_reducible exact ih1 _ _ _ _ _ _)
      | (with_reducible exact ih2 _ _ _ _ _ _)
      | (with_reducible exact impl_NearAll.mono _ _ _ _)
      | (with_reducible exact laws_wkInts.mono _ _ _)
      | (with_reducible exact spec_DrawNearAll.mono _ _)
      | (with_reducible exact spec_NearAll.mono _ _ _ _)
      | (with_reducible exact LeO.refl _)
      | (with_reducible exact LeO.none _)
      | (with_reducible refine LeO.ite ?_ ?_)
      | (with_reducible refine LeO.bind ?_ (fun _ => ?_))
      | exact ih0 _ _ _
      | exact ih1 _ _ _ _ _ _
      | exact ih2 _ _ _ _ _ _
      | exact impl_NearAll.mono _ _ _ _
      | exact laws_wkInts.mono _ _ _
      | exact spec_DrawNearAll.mono _ _
      | exact spec_NearAll.mono _ _ _ _
      | exact LeO.none _
      | refine LeO.ite ?_ ?_
      | refine LeO.bind ?_ (fun _ => ?_)
theorem laws_FnNearWay.mono : ∀ a0 a1 k, LeO (laws_FnNearWay.f k a0 a1) (laws_FnNearWay.f (k + 1) a0 a1) := by
  intro a0 a1 k
  obtain ⟨ih0, ih1, ih2⟩ := laws_FnNearWay.mono_l k
  unfold laws_FnNearWay.f
  repeat' first
      | (with_reducible exact ih0 _ _ _)
      | (with_reducible exact ih1 _ _ _ _ _ _)
      | (with_reducible exact ih2 _ _ _ _ _ _)
      | (with_reducible exact impl_NearAll.mono _ _ _ _)
      | (with_reducible exact laws_wkInts.mono _ _ _)
      | (with_reducible exact spec_DrawNearAll.mono _ _)
      | (with_reducible exact spec_NearAll.mono _ _ _ _)
      | (with_reducible exact LeO.refl _)
      | (with_reducible exact LeO.none _)
      | (with_reducible refine LeO.ite ?_ ?_)
      | (with_reducible refine LeO.bind ?_ (fun _ => ?_))
      | exact ih0 _ _ _
      | exact ih1 _ _ _ _ _ _
      | exact ih2 _ _ _ _ _ _
      | exact impl_NearAll.mono _ _ _ _
      | exact laws_wkInts.mono _ _ _
      | exact spec_DrawNearAll.mono _ _
      | exact spec_NearAll.mono _ _ _ _
      | exact LeO.none _
      | refine LeO.ite ?_ ?_
      | refine LeO.bind ?_ (fun _ => ?_)
set_option maxHeartbeats 8000000 in
set_option maxRecDepth 100000 in
theorem laws_FnNearWay.calls (k : Nat) (A0 : Option Addr) (c0 : Nat) (l0 : List Int) (A1 : Option Addr) (c1 : Nat) (l1 : List Int) (r : Bool) (w : World) (hr0 : Kd.C (Kd.int .u8) w A0 l0.length l0) (hc0 : l0.length ≤ c0) (hr1 : Kd.C (Kd.int .u8) w A1 l1.length l1) (hc1 : l1.length ≤ c1) (h : laws_FnNearWay.f k l0 l1 = some r) :
    Calls Try.prog 4 #[.slice A0 l0.length c0, .slice A1 l1.length c1] w fun e w' => e = .returned (.bool r) ∧ Below w.heap.size w w' := by
  have hu25 := Try.underlying25
  have HR0 := Aside0.mk hr0
  have HC0 := Aside0.mk hc0
  clear hr0 hc0
  have HR1 := Aside0.mk hr1
  have HC1 := Aside0.mk hc1
  clear hr1 hc1
  have HB := Aside0.mk (Below.refl w.heap.size w)
  have H : (if (l0.length : Int) > 1048576 then (laws_FnNearWay.j0 k l0 l1 true) else (laws_FnNearWay.j0 k l0 l1 (decide ((l1.length : Int) > 1048576)))) = some r := h
  clear h
  have HC3 := Aside0.mk H
  clear H
  go_enter Try.func4, Try.ntmps4
  go_upto_region 1 with (fail)
  repeat (go_quiet (fail); go_upto_region 1 with (fail))
  go_cut [18] (fun v18 wc => ∃ (kq : Nat) (x18_2 : Bool), v18 = .bool x18_2 ∧ Aside0 (laws_FnNearWay.j0 kq l0 l1 x18_2 = some r) ∧ Aside0 (kq ≤ k) ∧ Aside0 (Below w.heap.size w wc))
  case first =>
   have H := HC3.out
   clear HC3
   by_cases c4 : (l0.length : Int) > 1048576
   ·rw [if_pos c4] at H
    have c4b0 : decide (1048576 < (l0.length : Int)) = true := decide_eq_true c4
    have c4b1 : decide (1048576 < l0.length) = true := decide_eq_true (by omega)
    clear c4
    (first | rw [c4b0] | (simp only [i64_w, i32_w]; rw [c4b0]) | skip)
    have H' := Aside0.mk H
    clear H
    go_wp2
    repeat (go_quiet (fail); try go_wp2)
    go_meet
    case rel => exact ⟨_, (true), ns_, H', ⟨by first | omega | exact Nat.le_refl _⟩, ⟨by repeat (first | (with_reducible first | exact HB.out | apply below_alloc | apply pw_below_drewN | apply below_drew1) | exact HB.out)⟩⟩
   ·rw [if_neg c4] at H
    have c4b0 : decide (1048576 < (l0.length : Int)) = false := decide_eq_false c4
    have c4b1 : decide (1048576 < l0.length) = false := decide_eq_false (by omega)
    clear c4
    (first | rw [c4b0] | (simp only [i64_w, i32_w]; rw [c4b0]) | skip)
    have H' := Aside0.mk H
    clear H
    go_wp2
    repeat (go_quiet (fail); try go_wp2)
    go_meet
    case rel => exact ⟨_, (decide ((l1.length : Int) > 1048576)), ns_, H', ⟨by first | omega | exact Nat.le_refl _⟩, ⟨by repeat (first | (with_reducible first | exact HB.out | apply below_alloc | apply pw_below_drewN | apply below_drew1) | exact HB.out)⟩⟩
  case rest =>
   clear HC3
   try clear c1
   try clear p2
   try clear c4
   try clear c4b0
   try clear c4b1
   obtain ⟨kq, x18_2, rfl, HA, HJ2, HB⟩ := hcut
   cases kq with
   | zero => exact absurd HA.out (by simp [laws_FnNearWay.j0])
   | succ kj2 =>
    have H := HA.out
    clear HA
    simp only [laws_FnNearWay.j0] at H
    by_cases c5 : x18_2 = true
    ·subst c5
     have H1 : (some true) = some r := by rw [if_pos rfl] at H; exact H
     clear H
     have H := H1
     clear H1
     obtain rfl := Option.some.inj H
     go_wp2
     repeat (go_quiet (fail); try go_wp2)
     go_ret
     exact ⟨by first | rfl | (simp [errW_none, errW_some] <;> rfl) | (simp [*, errW_none, errW_some] <;> rfl), by repeat (first | (with_reducible first | exact HB.out | apply below_alloc | apply pw_below_drewN | apply below_drew1) | exact HB.out)⟩
    ·replace c5 := Bool.eq_false_iff.mpr c5
     subst c5
     have H1 : ((spec_DrawNearAll.f kj2 l0).bind fun bt329 => ((impl_NearAll.f kj2 bt329.1 bt329.2.1 bt329.2.2).bind fun t335 => ((spec_NearAll.f kj2 bt329.1 bt329.2.1 bt329.2.2).bind fun t338 => ((laws_wkInts.f kj2 t335 t338).bind fun t341 => (if t341 = true then (laws_FnNearWay.j1 kj2 l1 bt329.2.2 t335 ((t335.length : Int) == 0) bt329.1 bt329.2.1) else (laws_FnNearWay.j1 kj2 l1 bt329.2.2 t335 true bt329.1 bt329.2.1)))))) = some r := by rw [if_neg (show ¬ (false = true) by decide)] at H; exact H
     clear H
     have H := H1
     clear H1
     replace H := Option.bind_eq_some_iff.mp H
     obtain ⟨⟨t329, t330, t333⟩, A60, H⟩ := H
     replace H : ((impl_NearAll.f kj2 t329 t330 t333).bind fun t335 => ((spec_NearAll.f kj2 t329 t330 t333).bind fun t338 => ((laws_wkInts.f kj2 t335 t338).bind fun t341 => (if t341 = true then (laws_FnNearWay.j1 kj2 l1 t333 t335 ((t335.length : Int) == 0) t329 t330) else (laws_FnNearWay.j1 kj2 l1 t333 t335 true t329 t330))))) = some r := H
     have A6 := Aside0.mk A60
     clear A60
     replace H := Option.bind_eq_some_iff.mp H
     obtain ⟨t335, A70, H⟩ := H
     replace H : ((spec_NearAll.f kj2 t329 t330 t333).bind fun t338 => ((laws_wkInts.f kj2 t335 t338).bind fun t341 => (if t341 = true then (laws_FnNearWay.j1 kj2 l1 t333 t335 ((t335.length : Int) == 0) t329 t330) else (laws_FnNearWay.j1 kj2 l1 t333 t335 true t329 t330)))) = some r := H
     have A7 := Aside0.mk A70
     clear A70
     have HC8 := Aside0.mk H
     clear H
     go_upto_region 5 with (first | (go_at_call 13; (with_reducible refine (spec_DrawNearAll.calls kj2 _ _ l0 t329 t330 t333 _ ?side1 ?side2 A6.out).mono ?_); (case side1 => exact nc_ (Kd.C_below HR0.out HB.out)); (case side2 => exact HC0.out); rintro e w9 ⟨v331, rfl, ho0, hb⟩; have n0_ := Aside0.mk (Kd.R_lower ho0 (below_size (ne_ HB.out))); have n1_ := Aside0.mk (below_step (ne_ HB.out) hb); clear HB; have HO332 := n0_; have HB := n1_; clear n0_ n1_; (try clear hb); (try clear hb2); (try clear hk); (try clear hi); (try clear ho0)) | ((with_reducible refine gate_dst (N := 5) rfl ?_); (try (refine gate_guard (by rfl) ?_; dsimp only)); refine box_event ?hg (N := 5) ?hd (cs := #[.int .i64 0, .slice none 0 0]) (t := 25) ?hr ?_; (case hd => rfl); (case hg => rfl); (case hr => first | (go_simp; done) | (go_simp; rfl)); intro gb334 hg w10 hbox hb; have n0_ := Aside0.mk (Kd.R_below (nr_ HO332.out) hb); have n1_ := Aside0.mk (below_step (ne_ HB.out) hb); have n2_ := Aside0.mk (hbox); have n3_ := Aside0.mk ((by rw [hg]; exact (below_size (ne_ HB.out)) : w.heap.size ≤ gb334)); have n4_ := Aside0.mk ((by rw [hg]; exact (below_size (ne_ HB.out)) : w.heap.size ≤ gb334)); clear HO332; clear HB; have HO332 := n0_; have HB := n1_; have BK334 := n2_; have GW334 := n3_; have GE334 := n4_; clear n0_ n1_ n2_ n3_ n4_; clear hb hbox hg; have hcz11_0 : w10.cell? ⟨gb334, 0, none⟩ = some (.int .i64 0) := (blk_cell BK334.out 0).trans rfl; have hcz11_1 : w10.cell? ⟨gb334, 1, none⟩ = some (.slice none 0 0) := (blk_cell BK334.out 1).trans rfl; have hfz11_0 := blk_frozen BK334.out 0; have hfz11_1 := blk_frozen BK334.out 1; obtain ⟨Ao12, co12, eo12⟩ := Kd.R_slice HO332.out; subst eo12) | (go_at_call 14; (with_reducible refine (impl_NearAll.calls kj2 t329 _ _ t330 t333 t335 _ ?side1 ?side2 A7.out).mono ?_); (case side1 => refine (rR4 (e := 33) (base := w.heap.size) (ok := fun k_ => True) (n := t330.length) (c := co12) ?_).2.2; exact (by (with_reducible repeat (first | apply Kd.R_alloc | apply Kd.R_drewN | apply Kd.R_drew)); exact (Kd.R_mono (Kd.R_far (p := ⟨gb334, 1, none⟩) (Kd.R_far (p := ⟨gb334, 0, none⟩) (Kd.R_types HO332.out BK334.out (by decide)) (fun _ hk => hk.2) (.int .i64 t329)) (fun _ hk => hk.2) (.slice Ao12 t330.length co12)) (fun _ h_ => h_.1)))); (case side2 => exact (rR4 HO332.out).2.1); rintro e w13 ⟨v336, rfl, ho0, hb⟩; have n0_ := Aside0.mk (Kd.R_below (by (with_reducible repeat (first | apply Kd.R_alloc | apply Kd.R_drewN | apply Kd.R_drew)); exact (Kd.R_mono (Kd.R_far (p := ⟨gb334, 1, none⟩) (Kd.R_far (p := ⟨gb334, 0, none⟩) (Kd.R_types HO332.out BK334.out (by decide)) (fun _ hk => hk.2) (.int .i64 t329)) (fun _ hk => hk.2) (.slice Ao12 t330.length co12)) (fun _ h_ => h_.1))) hb); have n1_ := Aside0.mk (Kd.R_lower ho0 (below_size (ne_ HB.out))); have n2_ := Aside0.mk (blk_below (g := gb334) (o := .cells #[.int .i64 t329, .slice Ao12 t330.length co12] 25 (0, 0)) (by (with_reducible repeat (first | refine blk_drewN ?_ _ | refine blk_drew ?_ | refine blk_alloc ?_ _)); refine blk_put (cs := #[.int .i64 t329, .slice none 0 0]) ?_ 1 _ rfl; (with_reducible repeat (first | refine blk_drewN ?_ _ | refine blk_drew ?_ | refine blk_alloc ?_ _)); refine blk_put (cs := #[.int .i64 0, .slice none 0 0]) ?_ 0 _ rfl; (with_reducible repeat (first | refine blk_drewN ?_ _ | refine blk_drew ?_ | refine blk_alloc ?_ _)); exact BK334.out) hb); have n3_ := Aside0.mk (below_step (ne_ HB.out) hb); clear HO332; clear BK334; clear HB; have HO332 := n0_; have HO337 := n1_; have BK334 := n2_; have HB := n3_; clear n0_ n1_ n2_ n3_; (try clear hb); (try clear hb2); (try clear hk); (try clear hi); (try clear ho0)))
     repeat (go_quiet (first | (go_at_call 13; (with_reducible refine (spec_DrawNearAll.calls kj2 _ _ l0 t329 t330 t333 _ ?side1 ?side2 A6.out).mono ?_); (case side1 => exact nc_ (Kd.C_below HR0.out HB.out)); (case side2 => exact HC0.out); rintro e w9 ⟨v331, rfl, ho0, hb⟩; have n0_ := Aside0.mk (Kd.R_lower ho0 (below_size (ne_ HB.out))); have n1_ := Aside0.mk (below_step (ne_ HB.out) hb); clear HB; have HO332 := n0_; have HB := n1_; clear n0_ n1_; (try clear hb); (try clear hb2); (try clear hk); (try clear hi); (try clear ho0)) | ((with_reducible refine gate_dst (N := 5) rfl ?_); (try (refine gate_guard (by rfl) ?_; dsimp only)); refine box_event ?hg (N := 5) ?hd (cs := #[.int .i64 0, .slice none 0 0]) (t := 25) ?hr ?_; (case hd => rfl); (case hg => rfl); (case hr => first | (go_simp; done) | (go_simp; rfl)); intro gb334 hg w10 hbox hb; have n0_ := Aside0.mk (Kd.R_below (nr_ HO332.out) hb); have n1_ := Aside0.mk (below_step (ne_ HB.out) hb); have n2_ := Aside0.mk (hbox); have n3_ := Aside0.mk ((by rw [hg]; exact (below_size (ne_ HB.out)) : w.heap.size ≤ gb334)); have n4_ := Aside0.mk ((by rw [hg]; exact (below_size (ne_ HB.out)) : w.heap.size ≤ gb334)); clear HO332; clear HB; have HO332 := n0_; have HB := n1_; have BK334 := n2_; have GW334 := n3_; have GE334 := n4_; clear n0_ n1_ n2_ n3_ n4_; clear hb hbox hg; have hcz11_0 : w10.cell? ⟨gb334, 0, none⟩ = some (.int .i64 0) := (blk_cell BK334.out 0).trans rfl; have hcz11_1 : w10.cell? ⟨gb334, 1, none⟩ = some (.slice none 0 0) := (blk_cell BK334.out 1).trans rfl; have hfz11_0 := blk_frozen BK334.out 0; have hfz11_1 := blk_frozen BK334.out 1; obtain ⟨Ao12, co12, eo12⟩ := Kd.R_slice HO332.out; subst eo12) | (go_at_call 14; (with_reducible refine (impl_NearAll.calls kj2 t329 _ _ t330 t333 t335 _ ?side1 ?side2 A7.out).mono ?_); (case side1 => refine (rR4 (e := 33) (base := w.heap.size) (ok := fun k_ => True) (n := t330.length) (c := co12) ?_).2.2; exact (by (with_reducible repeat (first | apply Kd.R_alloc | apply Kd.R_drewN | apply Kd.R_drew)); exact (Kd.R_mono (Kd.R_far (p := ⟨gb334, 1, none⟩) (Kd.R_far (p := ⟨gb334, 0, none⟩) (Kd.R_types HO332.out BK334.out (by decide)) (fun _ hk => hk.2) (.int .i64 t329)) (fun _ hk => hk.2) (.slice Ao12 t330.length co12)) (fun _ h_ => h_.1)))); (case side2 => exact (rR4 HO332.out).2.1); rintro e w13 ⟨v336, rfl, ho0, hb⟩; have n0_ := Aside0.mk (Kd.R_below (by (with_reducible repeat (first | apply Kd.R_alloc | apply Kd.R_drewN | apply Kd.R_drew)); exact (Kd.R_mono (Kd.R_far (p := ⟨gb334, 1, none⟩) (Kd.R_far (p := ⟨gb334, 0, none⟩) (Kd.R_types HO332.out BK334.out (by decide)) (fun _ hk => hk.2) (.int .i64 t329)) (fun _ hk => hk.2) (.slice Ao12 t330.length co12)) (fun _ h_ => h_.1))) hb); have n1_ := Aside0.mk (Kd.R_lower ho0 (below_size (ne_ HB.out))); have n2_ := Aside0.mk (blk_below (g := gb334) (o := .cells #[.int .i64 t329, .slice Ao12 t330.length co12] 25 (0, 0)) (by (with_reducible repeat (first | refine blk_drewN ?_ _ | refine blk_drew ?_ | refine blk_alloc ?_ _)); refine blk_put (cs := #[.int .i64 t329, .slice none 0 0]) ?_ 1 _ rfl; (with_reducible repeat (first | refine blk_drewN ?_ _ | refine blk_drew ?_ | refine blk_alloc ?_ _)); refine blk_put (cs := #[.int .i64 0, .slice none 0 0]) ?_ 0 _ rfl; (with_reducible repeat (first | refine blk_drewN ?_ _ | refine blk_drew ?_ | refine blk_alloc ?_ _)); exact BK334.out) hb); have n3_ := Aside0.mk (below_step (ne_ HB.out) hb); clear HO332; clear BK334; clear HB; have HO332 := n0_; have HO337 := n1_; have BK334 := n2_; have HB := n3_; clear n0_ n1_ n2_ n3_; (try clear hb); (try clear hb2); (try clear hk); (try clear hi); (try clear ho0))); go_upto_region 5 with (first | (go_at_call 13; (with_reducible refine (spec_DrawNearAll.calls kj2 _ _ l0 t329 t330 t333 _ ?side1 ?side2 A6.out).mono ?_); (case side1 => exact nc_ (Kd.C_below HR0.out HB.out)); (case side2 => exact HC0.out); rintro e w9 ⟨v331, rfl, ho0, hb⟩; have n0_ := Aside0.mk (Kd.R_lower ho0 (below_size (ne_ HB.out))); have n1_ := Aside0.mk (below_step (ne_ HB.out) hb); clear HB; have HO332 := n0_; have HB := n1_; clear n0_ n1_; (try clear hb); (try clear hb2); (try clear hk); (try clear hi); (try clear ho0)) | ((with_reducible refine gate_dst (N := 5) rfl ?_); (try (refine gate_guard (by rfl) ?_; dsimp only)); refine box_event ?hg (N := 5) ?hd (cs := #[.int .i64 0, .slice none 0 0]) (t := 25) ?hr ?_; (case hd => rfl); (case hg => rfl); (case hr => first | (go_simp; done) | (go_simp; rfl)); intro gb334 hg w10 hbox hb; have n0_ := Aside0.mk (Kd.R_below (nr_ HO332.out) hb); have n1_ := Aside0.mk (below_step (ne_ HB.out) hb); have n2_ := Aside0.mk (hbox); have n3_ := Aside0.mk ((by rw [hg]; exact (below_size (ne_ HB.out)) : w.heap.size ≤ gb334)); have n4_ := Aside0.mk ((by rw [hg]; exact (below_size (ne_ HB.out)) : w.heap.size ≤ gb334)); clear HO332; clear HB; have HO332 := n0_; have HB := n1_; have BK334 := n2_; have GW334 := n3_; have GE334 := n4_; clear n0_ n1_ n2_ n3_ n4_; clear hb hbox hg; have hcz11_0 : w10.cell? ⟨gb334, 0, none⟩ = some (.int .i64 0) := (blk_cell BK334.out 0).trans rfl; have hcz11_1 : w10.cell? ⟨gb334, 1, none⟩ = some (.slice none 0 0) := (blk_cell BK334.out 1).trans rfl; have hfz11_0 := blk_frozen BK334.out 0; have hfz11_1 := blk_frozen BK334.out 1; obtain ⟨Ao12, co12, eo12⟩ := Kd.R_slice HO332.out; subst eo12) | (go_at_call 14; (with_reducible refine (impl_NearAll.calls kj2 t329 _ _ t330 t333 t335 _ ?side1 ?side2 A7.out).mono ?_); (case side1 => refine (rR4 (e := 33) (base := w.heap.size) (ok := fun k_ => True) (n := t330.length) (c := co12) ?_).2.2; exact (by (with_reducible repeat (first | apply Kd.R_alloc | apply Kd.R_drewN | apply Kd.R_drew)); exact (Kd.R_mono (Kd.R_far (p := ⟨gb334, 1, none⟩) (Kd.R_far (p := ⟨gb334, 0, none⟩) (Kd.R_types HO332.out BK334.out (by decide)) (fun _ hk => hk.2) (.int .i64 t329)) (fun _ hk => hk.2) (.slice Ao12 t330.length co12)) (fun _ h_ => h_.1)))); (case side2 => exact (rR4 HO332.out).2.1); rintro e w13 ⟨v336, rfl, ho0, hb⟩; have n0_ := Aside0.mk (Kd.R_below (by (with_reducible repeat (first | apply Kd.R_alloc | apply Kd.R_drewN | apply Kd.R_drew)); exact (Kd.R_mono (Kd.R_far (p := ⟨gb334, 1, none⟩) (Kd.R_far (p := ⟨gb334, 0, none⟩) (Kd.R_types HO332.out BK334.out (by decide)) (fun _ hk => hk.2) (.int .i64 t329)) (fun _ hk => hk.2) (.slice Ao12 t330.length co12)) (fun _ h_ => h_.1))) hb); have n1_ := Aside0.mk (Kd.R_lower ho0 (below_size (ne_ HB.out))); have n2_ := Aside0.mk (blk_below (g := gb334) (o := .cells #[.int .i64 t329, .slice Ao12 t330.length co12] 25 (0, 0)) (by (with_reducible repeat (first | refine blk_drewN ?_ _ | refine blk_drew ?_ | refine blk_alloc ?_ _)); refine blk_put (cs := #[.int .i64 t329, .slice none 0 0]) ?_ 1 _ rfl; (with_reducible repeat (first | refine blk_drewN ?_ _ | refine blk_drew ?_ | refine blk_alloc ?_ _)); refine blk_put (cs := #[.int .i64 0, .slice none 0 0]) ?_ 0 _ rfl; (with_reducible repeat (first | refine blk_drewN ?_ _ | refine blk_drew ?_ | refine blk_alloc ?_ _)); exact BK334.out) hb); have n3_ := Aside0.mk (below_step (ne_ HB.out) hb); clear HO332; clear BK334; clear HB; have HO332 := n0_; have HO337 := n1_; have BK334 := n2_; have HB := n3_; clear n0_ n1_ n2_ n3_; (try clear hb); (try clear hb2); (try clear hk); (try clear hi); (try clear ho0))))
     (try simp only [Act.put, List.setIfInBounds_toArray, List.set_cons_zero, List.set_cons_succ])
     go_cut [37] (fun v37 wc => ∃ (kq : Nat) (x37_7 : Bool), v37 = .bool x37_7 ∧ Aside0 (laws_FnNearWay.j1 kq l1 t333 t335 x37_7 t329 t330 = some r) ∧ Aside0 (kq ≤ kj2) ∧ Aside0 (Kd.R (Kd.int .i64) 3 wc w.heap.size (fun _ => True) v336 t335) ∧ Aside0 (Kd.R k33 33 wc w.heap.size (fun _ => True) (.slice Ao12 t330.length co12) t330) ∧ Aside0 (wc.heap[gb334]? = some (.cells #[.int .i64 t329, (.slice Ao12 t330.length co12)] 25 (0, 0))) ∧ Aside0 (Below w.heap.size w wc))
     case first =>
      have H := HC8.out
      clear HC8
      replace H := Option.bind_eq_some_iff.mp H
      obtain ⟨t338, A140, H⟩ := H
      replace H : ((laws_wkInts.f kj2 t335 t338).bind fun t341 => (if t341 = true then (laws_FnNearWay.j1 kj2 l1 t333 t335 ((t335.length : Int) == 0) t329 t330) else (laws_FnNearWay.j1 kj2 l1 t333 t335 true t329 t330))) = some r := H
      have A14 := Aside0.mk A140
      clear A140
      replace H := Option.bind_eq_some_iff.mp H
      obtain ⟨t341, A150, H⟩ := H
      replace H : (if t341 = true then (laws_FnNearWay.j1 kj2 l1 t333 t335 ((t335.length : Int) == 0) t329 t330) else (laws_FnNearWay.j1 kj2 l1 t333 t335 true t329 t330)) = some r := H
      have A15 := Aside0.mk A150
      clear A150
      by_cases c16 : t341 = true
      ·subst c16
       have H1 : (laws_FnNearWay.j1 kj2 l1 t333 t335 ((t335.length : Int) == 0) t329 t330) = some r := by rw [if_pos rfl] at H; exact H
       clear H
       have H := H1
       clear H1
       have H' := Aside0.mk H
       clear H
       have hcz17_0 : w13.cell? ⟨gb334, 0, none⟩ = some (.int .i64 t329) := (blk_cell BK334.out 0).trans rfl
       have hcz17_1 : w13.cell? ⟨gb334, 1, none⟩ = some (.slice Ao12 t330.length co12) := (blk_cell BK334.out 1).trans rfl
       have hfz17_0 := blk_frozen BK334.out 0
       have hfz17_1 := blk_frozen BK334.out 1
       go_wp2_with (first | (go_at_call 16; (with_reducible refine (spec_NearAll.calls kj2 t329 _ _ t330 t333 t338 _ ?side1 ?side2 A14.out).mono ?_); (case side1 => exact nc_ (rR4 HO332.out).2.2); (case side2 => exact (rR4 HO332.out).2.1); rintro e w18 ⟨v339, rfl, ho0, hb⟩; have n0_ := Aside0.mk (Kd.R_below (nr_ HO332.out) hb); have n1_ := Aside0.mk (Kd.R_elder' (nr_ HO337.out) (Kd.R_base ho0) hb); have n2_ := Aside0.mk (Kd.R_lower (Kd.R_new' ho0 (Kd.R_lt (nr_ HO337.out))) (below_size (ne_ HB.out))); have n3_ := Aside0.mk (blk_below (g := gb334) (o := .cells #[.int .i64 t329, .slice Ao12 t330.length co12] 25 (0, 0)) (nb_ BK334.out) hb); have n4_ := Aside0.mk (below_step (ne_ HB.out) hb); clear HO332; clear HO337; clear BK334; clear HB; have HO332 := n0_; have HO337 := n1_; have HO340 := n2_; have BK334 := n3_; have HB := n4_; clear n0_ n1_ n2_ n3_ n4_; (try clear hb); (try clear hb2); (try clear hk); (try clear hi); (try clear ho0); obtain ⟨Ao19, co19, eo19⟩ := Kd.R_slice HO337.out; subst eo19; obtain ⟨Ao20, co20, eo20⟩ := Kd.R_slice HO340.out; subst eo20) | (go_at_call 15; (with_reducible refine (laws_wkInts.calls kj2 _ _ t335 _ _ t338 true _ ?side1 ?side2 ?side3 ?side4 A15.out).mono ?_); (case side1 => exact nc_ (rR4 HO337.out).2.2); (case side2 => exact (rR4 HO337.out).2.1); (case side3 => exact nc_ (rR4 HO340.out).2.2); (case side4 => exact (rR4 HO340.out).2.1); rintro e w' ⟨rfl, ⟨nd, rfl⟩⟩; (try first | exact ⟨rfl, _, World.drewN_drewN _ _ _⟩ | exact ⟨rfl, _, Eq.trans (World.drewN_drewN _ _ _) (congrArg (World.drewN _) (Nat.add_assoc _ _ _))⟩)))
       repeat (go_quiet (first | (go_at_call 16; (with_reducible refine (spec_NearAll.calls kj2 t329 _ _ t330 t333 t338 _ ?side1 ?side2 A14.out).mono ?_); (case side1 => exact nc_ (rR4 HO332.out).2.2); (case side2 => exact (rR4 HO332.out).2.1); rintro e w18 ⟨v339, rfl, ho0, hb⟩; have n0_ := Aside0.mk (Kd.R_below (nr_ HO332.out) hb); have n1_ := Aside0.mk (Kd.R_elder' (nr_ HO337.out) (Kd.R_base ho0) hb); have n2_ := Aside0.mk (Kd.R_lower (Kd.R_new' ho0 (Kd.R_lt (nr_ HO337.out))) (below_size (ne_ HB.out))); have n3_ := Aside0.mk (blk_below (g := gb334) (o := .cells #[.int .i64 t329, .slice Ao12 t330.length co12] 25 (0, 0)) (nb_ BK334.out) hb); have n4_ := Aside0.mk (below_step (ne_ HB.out) hb); clear HO332; clear HO337; clear BK334; clear HB; have HO332 := n0_; have HO337 := n1_; have HO340 := n2_; have BK334 := n3_; have HB := n4_; clear n0_ n1_ n2_ n3_ n4_; (try clear hb); (try clear hb2); (try clear hk); (try clear hi); (try clear ho0); obtain ⟨Ao19, co19, eo19⟩ := Kd.R_slice HO337.out; subst eo19; obtain ⟨Ao20, co20, eo20⟩ := Kd.R_slice HO340.out; subst eo20) | (go_at_call 15; (with_reducible refine (laws_wkInts.calls kj2 _ _ t335 _ _ t338 true _ ?side1 ?side2 ?side3 ?side4 A15.out).mono ?_); (case side1 => exact nc_ (rR4 HO337.out).2.2); (case side2 => exact (rR4 HO337.out).2.1); (case side3 => exact nc_ (rR4 HO340.out).2.2); (case side4 => exact (rR4 HO340.out).2.1); rintro e w' ⟨rfl, ⟨nd, rfl⟩⟩; (try first | exact ⟨rfl, _, World.drewN_drewN _ _ _⟩ | exact ⟨rfl, _, Eq.trans (World.drewN_drewN _ _ _) (congrArg (World.drewN _) (Nat.add_assoc _ _ _))⟩))); try go_wp2_with (first | (go_at_call 16; (with_reducible refine (spec_NearAll.calls kj2 t329 _ _ t330 t333 t338 _ ?side1 ?side2 A14.out).mono ?_); (case side1 => exact nc_ (rR4 HO332.out).2.2); (case side2 => exact (rR4 HO332.out).2.1); rintro e w18 ⟨v339, rfl, ho0, hb⟩; have n0_ := Aside0.mk (Kd.R_below (nr_ HO332.out) hb); have n1_ := Aside0.mk (Kd.R_elder' (nr_ HO337.out) (Kd.R_base ho0) hb); have n2_ := Aside0.mk (Kd.R_lower (Kd.R_new' ho0 (Kd.R_lt (nr_ HO337.out))) (below_size (ne_ HB.out))); have n3_ := Aside0.mk (blk_below (g := gb334) (o := .cells #[.int .i64 t329, .slice Ao12 t330.length co12] 25 (0, 0)) (nb_ BK334.out) hb); have n4_ := Aside0.mk (below_step (ne_ HB.out) hb); clear HO332; clear HO337; clear BK334; clear HB; have HO332 := n0_; have HO337 := n1_; have HO340 := n2_; have BK334 := n3_; have HB := n4_; clear n0_ n1_ n2_ n3_ n4_; (try clear hb); (try clear hb2); (try clear hk); (try clear hi); (try clear ho0); obtain ⟨Ao19, co19, eo19⟩ := Kd.R_slice HO337.out; subst eo19; obtain ⟨Ao20, co20, eo20⟩ := Kd.R_slice HO340.out; subst eo20) | (go_at_call 15; (with_reducible refine (laws_wkInts.calls kj2 _ _ t335 _ _ t338 true _ ?side1 ?side2 ?side3 ?side4 A15.out).mono ?_); (case side1 => exact nc_ (rR4 HO337.out).2.2); (case side2 => exact (rR4 HO337.out).2.1); (case side3 => exact nc_ (rR4 HO340.out).2.2); (case side4 => exact (rR4 HO340.out).2.1); rintro e w' ⟨rfl, ⟨nd, rfl⟩⟩; (try first | exact ⟨rfl, _, World.drewN_drewN _ _ _⟩ | exact ⟨rfl, _, Eq.trans (World.drewN_drewN _ _ _) (congrArg (World.drewN _) (Nat.add_assoc _ _ _))⟩))))
       go_meet
       case rel => exact ⟨_, (((t335.length : Int) == 0)), ns_, H', ⟨by have := HJ2.out; first | omega | exact Nat.le_refl _⟩, ⟨by (with_reducible repeat (first | apply Kd.R_alloc | apply Kd.R_drewN | apply Kd.R_drew)); exact Kd.R_mono HO337.out (fun _ hk => trivial)⟩, ⟨by (with_reducible repeat (first | apply Kd.R_alloc | apply Kd.R_drewN | apply Kd.R_drew)); exact HO332.out⟩, ⟨by (with_reducible repeat (first | refine blk_drewN ?_ _ | refine blk_drew ?_ | refine blk_alloc ?_ _)); exact BK334.out⟩, ⟨by repeat (first | (with_reducible first | exact HB.out | apply below_alloc | apply pw_below_drewN | apply below_drew1 | refine below_set ?_ GE334.out) | exact HB.out)⟩⟩
      ·replace c16 := Bool.eq_false_iff.mpr c16
       subst c16
       have H1 : (laws_FnNearWay.j1 kj2 l1 t333 t335 true t329 t330) = some r := by rw [if_neg (show ¬ (false = true) by decide)] at H; exact H
       clear H
       have H := H1
       clear H1
       have H' := Aside0.mk H
       clear H
       have hcz21_0 : w13.cell? ⟨gb334, 0, none⟩ = some (.int .i64 t329) := (blk_cell BK334.out 0).trans rfl
       have hcz21_1 : w13.cell? ⟨gb334, 1, none⟩ = some (.slice Ao12 t330.length co12) := (blk_cell BK334.out 1).trans rfl
       have hfz21_0 := blk_frozen BK334.out 0
       have hfz21_1 := blk_frozen BK334.out 1
       go_wp2_with (first | (go_at_call 16; (with_reducible refine (spec_NearAll.calls kj2 t329 _ _ t330 t333 t338 _ ?side1 ?side2 A14.out).mono ?_); (case side1 => exact nc_ (rR4 HO332.out).2.2); (case side2 => exact (rR4 HO332.out).2.1); rintro e w22 ⟨v339, rfl, ho0, hb⟩; have n0_ := Aside0.mk (Kd.R_below (nr_ HO332.out) hb); have n1_ := Aside0.mk (Kd.R_elder' (nr_ HO337.out) (Kd.R_base ho0) hb); have n2_ := Aside0.mk (Kd.R_lower (Kd.R_new' ho0 (Kd.R_lt (nr_ HO337.out))) (below_size (ne_ HB.out))); have n3_ := Aside0.mk (blk_below (g := gb334) (o := .cells #[.int .i64 t329, .slice Ao12 t330.length co12] 25 (0, 0)) (nb_ BK334.out) hb); have n4_ := Aside0.mk (below_step (ne_ HB.out) hb); clear HO332; clear HO337; clear BK334; clear HB; have HO332 := n0_; have HO337 := n1_; have HO340 := n2_; have BK334 := n3_; have HB := n4_; clear n0_ n1_ n2_ n3_ n4_; (try clear hb); (try clear hb2); (try clear hk); (try clear hi); (try clear ho0); obtain ⟨Ao23, co23, eo23⟩ := Kd.R_slice HO337.out; subst eo23; obtain ⟨Ao24, co24, eo24⟩ := Kd.R_slice HO340.out; subst eo24) | (go_at_call 15; (with_reducible refine (laws_wkInts.calls kj2 _ _ t335 _ _ t338 false _ ?side1 ?side2 ?side3 ?side4 A15.out).mono ?_); (case side1 => exact nc_ (rR4 HO337.out).2.2); (case side2 => exact (rR4 HO337.out).2.1); (case side3 => exact nc_ (rR4 HO340.out).2.2); (case side4 => exact (rR4 HO340.out).2.1); rintro e w' ⟨rfl, ⟨nd, rfl⟩⟩; (try first | exact ⟨rfl, _, World.drewN_drewN _ _ _⟩ | exact ⟨rfl, _, Eq.trans (World.drewN_drewN _ _ _) (congrArg (World.drewN _) (Nat.add_assoc _ _ _))⟩)))
       repeat (go_quiet (first | (go_at_call 16; (with_reducible refine (spec_NearAll.calls kj2 t329 _ _ t330 t333 t338 _ ?side1 ?side2 A14.out).mono ?_); (case side1 => exact nc_ (rR4 HO332.out).2.2); (case side2 => exact (rR4 HO332.out).2.1); rintro e w22 ⟨v339, rfl, ho0, hb⟩; have n0_ := Aside0.mk (Kd.R_below (nr_ HO332.out) hb); have n1_ := Aside0.mk (Kd.R_elder' (nr_ HO337.out) (Kd.R_base ho0) hb); have n2_ := Aside0.mk (Kd.R_lower (Kd.R_new' ho0 (Kd.R_lt (nr_ HO337.out))) (below_size (ne_ HB.out))); have n3_ := Aside0.mk (blk_below (g := gb334) (o := .cells #[.int .i64 t329, .slice Ao12 t330.length co12] 25 (0, 0)) (nb_ BK334.out) hb); have n4_ := Aside0.mk (below_step (ne_ HB.out) hb); clear HO332; clear HO337; clear BK334; clear HB; have HO332 := n0_; have HO337 := n1_; have HO340 := n2_; have BK334 := n3_; have HB := n4_; clear n0_ n1_ n2_ n3_ n4_; (try clear hb); (try clear hb2); (try clear hk); (try clear hi); (try clear ho0); obtain ⟨Ao23, co23, eo23⟩ := Kd.R_slice HO337.out; subst eo23; obtain ⟨Ao24, co24, eo24⟩ := Kd.R_slice HO340.out; subst eo24) | (go_at_call 15; (with_reducible refine (laws_wkInts.calls kj2 _ _ t335 _ _ t338 false _ ?side1 ?side2 ?side3 ?side4 A15.out).mono ?_); (case side1 => exact nc_ (rR4 HO337.out).2.2); (case side2 => exact (rR4 HO337.out).2.1); (case side3 => exact nc_ (rR4 HO340.out).2.2); (case side4 => exact (rR4 HO340.out).2.1); rintro e w' ⟨rfl, ⟨nd, rfl⟩⟩; (try first | exact ⟨rfl, _, World.drewN_drewN _ _ _⟩ | exact ⟨rfl, _, Eq.trans (World.drewN_drewN _ _ _) (congrArg (World.drewN _) (Nat.add_assoc _ _ _))⟩))); try go_wp2_with (first | (go_at_call 16; (with_reducible refine (spec_NearAll.calls kj2 t329 _ _ t330 t333 t338 _ ?side1 ?side2 A14.out).mono ?_); (case side1 => exact nc_ (rR4 HO332.out).2.2); (case side2 => exact (rR4 HO332.out).2.1); rintro e w22 ⟨v339, rfl, ho0, hb⟩; have n0_ := Aside0.mk (Kd.R_below (nr_ HO332.out) hb); have n1_ := Aside0.mk (Kd.R_elder' (nr_ HO337.out) (Kd.R_base ho0) hb); have n2_ := Aside0.mk (Kd.R_lower (Kd.R_new' ho0 (Kd.R_lt (nr_ HO337.out))) (below_size (ne_ HB.out))); have n3_ := Aside0.mk (blk_below (g := gb334) (o := .cells #[.int .i64 t329, .slice Ao12 t330.length co12] 25 (0, 0)) (nb_ BK334.out) hb); have n4_ := Aside0.mk (below_step (ne_ HB.out) hb); clear HO332; clear HO337; clear BK334; clear HB; have HO332 := n0_; have HO337 := n1_; have HO340 := n2_; have BK334 := n3_; have HB := n4_; clear n0_ n1_ n2_ n3_ n4_; (try clear hb); (try clear hb2); (try clear hk); (try clear hi); (try clear ho0); obtain ⟨Ao23, co23, eo23⟩ := Kd.R_slice HO337.out; subst eo23; obtain ⟨Ao24, co24, eo24⟩ := Kd.R_slice HO340.out; subst eo24) | (go_at_call 15; (with_reducible refine (laws_wkInts.calls kj2 _ _ t335 _ _ t338 false _ ?side1 ?side2 ?side3 ?side4 A15.out).mono ?_); (case side1 => exact nc_ (rR4 HO337.out).2.2); (case side2 => exact (rR4 HO337.out).2.1); (case side3 => exact nc_ (rR4 HO340.out).2.2); (case side4 => exact (rR4 HO340.out).2.1); rintro e w' ⟨rfl, ⟨nd, rfl⟩⟩; (try first | exact ⟨rfl, _, World.drewN_drewN _ _ _⟩ | exact ⟨rfl, _, Eq.trans (World.drewN_drewN _ _ _) (congrArg (World.drewN _) (Nat.add_assoc _ _ _))⟩))))
       go_meet
       case rel => exact ⟨_, (true), ns_, H', ⟨by have := HJ2.out; first | omega | exact Nat.le_refl _⟩, ⟨by (with_reducible repeat (first | apply Kd.R_alloc | apply Kd.R_drewN | apply Kd.R_drew)); exact Kd.R_mono HO337.out (fun _ hk => trivial)⟩, ⟨by (with_reducible repeat (first | apply Kd.R_alloc | apply Kd.R_drewN | apply Kd.R_drew)); exact HO332.out⟩, ⟨by (with_reducible repeat (first | refine blk_drewN ?_ _ | refine blk_drew ?_ | refine blk_alloc ?_ _)); exact BK334.out⟩, ⟨by repeat (first | (with_reducible first | exact HB.out | apply below_alloc | apply pw_below_drewN | apply below_drew1 | refine below_set ?_ GE334.out) | exact HB.out)⟩⟩
     case rest =>
      clear HC8
      try clear c1
      try clear p2
      try clear c4
      try clear c4b0
      try clear c4b1
      try clear c5
      try clear c16
      try clear hcz11_0
      try clear hcz11_1
      try clear hcz17_0
      try clear hcz17_1
      try clear hcz21_0
      try clear hcz21_1
      try clear hfz11_0
      try clear hfz11_1
      try clear hfz17_0
      try clear hfz17_1
      try clear hfz21_0
      try clear hfz21_1
      try clear p2
      obtain ⟨kq, x37_7, rfl, HA, HJ7, HO_7, HO_335001, BK334, HB⟩ := hcut
      cases kq with
      | zero => exact absurd HA.out (by simp [laws_FnNearWay.j1])
      | succ kj7 =>
       have H := HA.out
       clear HA
       simp only [laws_FnNearWay.j1] at H
       by_cases c25 : x37_7 = true
       ·subst c25
        have H1 : ((spec_NearAll.f kj7 t329 t330 t333).bind fun t342 => ((laws_wkInts.f kj7 t335 t342).bind fun t345 => (some t345))) = some r := by rw [if_pos rfl] at H; exact H
        clear H
        have H := H1
        clear H1
        replace H := Option.bind_eq_some_iff.mp H
        obtain ⟨t342, A260, H⟩ := H
        replace H : ((laws_wkInts.f kj7 t335 t342).bind fun t345 => (some t345)) = some r := H
        have A26 := Aside0.mk A260
        clear A260
        replace H := Option.bind_eq_some_iff.mp H
        obtain ⟨t345, A270, H⟩ := H
        replace H : (some t345) = some r := H
        have A27 := Aside0.mk A270
        clear A270
        obtain rfl := Option.some.inj H
        have hcz28_0 : wc.cell? ⟨gb334, 0, none⟩ = some (.int .i64 t329) := (blk_cell BK334.out 0).trans rfl
        have hcz28_1 : wc.cell? ⟨gb334, 1, none⟩ = some (.slice Ao12 t330.length co12) := (blk_cell BK334.out 1).trans rfl
        have hfz28_0 := blk_frozen BK334.out 0
        have hfz28_1 := blk_frozen BK334.out 1
        go_wp2_with (first | (go_at_call 16; (with_reducible refine (spec_NearAll.calls kj7 t329 _ _ t330 t333 t342 _ ?side1 ?side2 A26.out).mono ?_); (case side1 => exact nc_ (rR4 HO_335001.out).2.2); (case side2 => exact (rR4 HO_335001.out).2.1); rintro e w29 ⟨v343, rfl, ho0, hb⟩; have n0_ := Aside0.mk (Kd.R_elder' (nr_ HO_7.out) (Kd.R_base ho0) hb); have n1_ := Aside0.mk (Kd.R_below (nr_ HO_335001.out) hb); have n2_ := Aside0.mk (Kd.R_lower (Kd.R_new' ho0 (Kd.R_lt (nr_ HO_7.out))) (below_size (ne_ HB.out))); have n3_ := Aside0.mk (blk_below (g := gb334) (o := .cells #[.int .i64 t329, .slice Ao12 t330.length co12] 25 (0, 0)) (nb_ BK334.out) hb); have n4_ := Aside0.mk (below_step (ne_ HB.out) hb); clear HO_7; clear HO_335001; clear BK334; clear HB; have HO_7 := n0_; have HO_335001 := n1_; have HO344 := n2_; have BK334 := n3_; have HB := n4_; clear n0_ n1_ n2_ n3_ n4_; (try clear hb); (try clear hb2); (try clear hk); (try clear hi); (try clear ho0); obtain ⟨Ao30, co30, eo30⟩ := Kd.R_slice HO_7.out; subst eo30; obtain ⟨Ao31, co31, eo31⟩ := Kd.R_slice HO344.out; subst eo31) | (go_at_call 15; (with_reducible refine (laws_wkInts.calls kj7 _ _ t335 _ _ t342 t345 _ ?side1 ?side2 ?side3 ?side4 A27.out).mono ?_); (case side1 => exact nc_ (rR4 HO_7.out).2.2); (case side2 => exact (rR4 HO_7.out).2.1); (case side3 => exact nc_ (rR4 HO344.out).2.2); (case side4 => exact (rR4 HO344.out).2.1); rintro e w' ⟨rfl, ⟨nd, rfl⟩⟩; (try first | exact ⟨rfl, _, World.drewN_drewN _ _ _⟩ | exact ⟨rfl, _, Eq.trans (World.drewN_drewN _ _ _) (congrArg (World.drewN _) (Nat.add_assoc _ _ _))⟩)))
        repeat (go_quiet (first | (go_at_call 16; (with_reducible refine (spec_NearAll.calls kj7 t329 _ _ t330 t333 t342 _ ?side1 ?side2 A26.out).mono ?_); (case side1 => exact nc_ (rR4 HO_335001.out).2.2); (case side2 => exact (rR4 HO_335001.out).2.1); rintro e w29 ⟨v343, rfl, ho0, hb⟩; have n0_ := Aside0.mk (Kd.R_elder' (nr_ HO_7.out) (Kd.R_base ho0) hb); have n1_ := Aside0.mk (Kd.R_below (nr_ HO_335001.out) hb); have n2_ := Aside0.mk (Kd.R_lower (Kd.R_new' ho0 (Kd.R_lt (nr_ HO_7.out))) (below_size (ne_ HB.out))); have n3_ := Aside0.mk (blk_below (g := gb334) (o := .cells #[.int .i64 t329, .slice Ao12 t330.length co12] 25 (0, 0)) (nb_ BK334.out) hb); have n4_ := Aside0.mk (below_step (ne_ HB.out) hb); clear HO_7; clear HO_335001; clear BK334; clear HB; have HO_7 := n0_; have HO_335001 := n1_; have HO344 := n2_; have BK334 := n3_; have HB := n4_; clear n0_ n1_ n2_ n3_ n4_; (try clear hb); (try clear hb2); (try clear hk); (try clear hi); (try clear ho0); obtain ⟨Ao30, co30, eo30⟩ := Kd.R_slice HO_7.out; subst eo30; obtain ⟨Ao31, co31, eo31⟩ := Kd.R_slice HO344.out; subst eo31) | (go_at_call 15; (with_reducible refine (laws_wkInts.calls kj7 _ _ t335 _ _ t342 t345 _ ?side1 ?side2 ?side3 ?side4 A27.out).mono ?_); (case side1 => exact nc_ (rR4 HO_7.out).2.2); (case side2 => exact (rR4 HO_7.out).2.1); (case side3 => exact nc_ (rR4 HO344.out).2.2); (case side4 => exact (rR4 HO344.out).2.1); rintro e w' ⟨rfl, ⟨nd, rfl⟩⟩; (try first | exact ⟨rfl, _, World.drewN_drewN _ _ _⟩ | exact ⟨rfl, _, Eq.trans (World.drewN_drewN _ _ _) (congrArg (World.drewN _) (Nat.add_assoc _ _ _))⟩))); try go_wp2_with (first | (go_at_call 16; (with_reducible refine (spec_NearAll.calls kj7 t329 _ _ t330 t333 t342 _ ?side1 ?side2 A26.out).mono ?_); (case side1 => exact nc_ (rR4 HO_335001.out).2.2); (case side2 => exact (rR4 HO_335001.out).2.1); rintro e w29 ⟨v343, rfl, ho0, hb⟩; have n0_ := Aside0.mk (Kd.R_elder' (nr_ HO_7.out) (Kd.R_base ho0) hb); have n1_ := Aside0.mk (Kd.R_below (nr_ HO_335001.out) hb); have n2_ := Aside0.mk (Kd.R_lower (Kd.R_new' ho0 (Kd.R_lt (nr_ HO_7.out))) (below_size (ne_ HB.out))); have n3_ := Aside0.mk (blk_below (g := gb334) (o := .cells #[.int .i64 t329, .slice Ao12 t330.length co12] 25 (0, 0)) (nb_ BK334.out) hb); have n4_ := Aside0.mk (below_step (ne_ HB.out) hb); clear HO_7; clear HO_335001; clear BK334; clear HB; have HO_7 := n0_; have HO_335001 := n1_; have HO344 := n2_; have BK334 := n3_; have HB := n4_; clear n0_ n1_ n2_ n3_ n4_; (try clear hb); (try clear hb2); (try clear hk); (try clear hi); (try clear ho0); obtain ⟨Ao30, co30, eo30⟩ := Kd.R_slice HO_7.out; subst eo30; obtain ⟨Ao31, co31, eo31⟩ := Kd.R_slice HO344.out; subst eo31) | (go_at_call 15; (with_reducible refine (laws_wkInts.calls kj7 _ _ t335 _ _ t342 t345 _ ?side1 ?side2 ?side3 ?side4 A27.out).mono ?_); (case side1 => exact nc_ (rR4 HO_7.out).2.2); (case side2 => exact (rR4 HO_7.out).2.1); (case side3 => exact nc_ (rR4 HO344.out).2.2); (case side4 => exact (rR4 HO344.out).2.1); rintro e w' ⟨rfl, ⟨nd, rfl⟩⟩; (try first | exact ⟨rfl, _, World.drewN_drewN _ _ _⟩ | exact ⟨rfl, _, Eq.trans (World.drewN_drewN _ _ _) (congrArg (World.drewN _) (Nat.add_assoc _ _ _))⟩))))
        go_ret
        exact ⟨by first | rfl | (simp [errW_none, errW_some] <;> rfl) | (simp [*, errW_none, errW_some] <;> rfl), by repeat (first | (with_reducible first | exact HB.out | apply below_alloc | apply pw_below_drewN | apply below_drew1 | refine below_set ?_ GE334.out) | exact HB.out)⟩
       ·replace c25 := Bool.eq_false_iff.mpr c25
        subst c25
        have H1 : (if t329 = 0 then (none) else ((impl_NearAll.f kj7 t329 t330 ((l1.length : Int) % t329)).bind fun t346 => (laws_FnNearWay.l0 kj7 t335 ((l1.length : Int) % t329) t346 0 t329 t330))) = some r := by rw [if_neg (show ¬ (false = true) by decide)] at H; exact H
        clear H
        have H := H1
        clear H1
        by_cases c32 : t329 = 0
        ·rw [if_pos c32] at H
         exact absurd H (by simp)
        ·rw [if_neg c32] at H
         have c32b0 : (t329 == 0) = false := beq_eq_false_iff_ne.mpr c32
         have c32b1 : (t329 != 0) = true := bne_iff_ne.mpr c32
         replace H := Option.bind_eq_some_iff.mp H
         obtain ⟨t346, A330, H⟩ := H
         replace H : (laws_FnNearWay.l0 kj7 t335 ((l1.length : Int) % t329) t346 0 t329 t330) = some r := H
         have A33 := Aside0.mk A330
         clear A330
         have H' := Aside0.mk H
         clear H
         have hcz34_0 : wc.cell? ⟨gb334, 0, none⟩ = some (.int .i64 t329) := (blk_cell BK334.out 0).trans rfl
         have hcz34_1 : wc.cell? ⟨gb334, 1, none⟩ = some (.slice Ao12 t330.length co12) := (blk_cell BK334.out 1).trans rfl
         have hfz34_0 := blk_frozen BK334.out 0
         have hfz34_1 := blk_frozen BK334.out 1
         go_wp2_with (first | (go_at_call 14; (with_reducible refine (impl_NearAll.calls kj7 t329 _ _ t330 ((l1.length : Int) % t329) t346 _ ?side1 ?side2 A33.out).mono ?_); (case side1 => exact nc_ (rR4 HO_335001.out).2.2); (case side2 => exact (rR4 HO_335001.out).2.1); rintro e w35 ⟨v347, rfl, ho0, hb⟩; have n0_ := Aside0.mk (Kd.R_elder' (nr_ HO_7.out) (Kd.R_base ho0) hb); have n1_ := Aside0.mk (Kd.R_below (nr_ HO_335001.out) hb); have n2_ := Aside0.mk (Kd.R_lower (Kd.R_new' ho0 (Kd.R_lt (nr_ HO_7.out))) (below_size (ne_ HB.out))); have n3_ := Aside0.mk (blk_below (g := gb334) (o := .cells #[.int .i64 t329, .slice Ao12 t330.length co12] 25 (0, 0)) (nb_ BK334.out) hb); have n4_ := Aside0.mk (below_step (ne_ HB.out) hb); clear HO_7; clear HO_335001; clear BK334; clear HB; have HO_7 := n0_; have HO_335001 := n1_; have HO348 := n2_; have BK334 := n3_; have HB := n4_; clear n0_ n1_ n2_ n3_ n4_; (try clear hb); (try clear hb2); (try clear hk); (try clear hi); (try clear ho0)))
         repeat (go_quiet (first | (go_at_call 14; (with_reducible refine (impl_NearAll.calls kj7 t329 _ _ t330 ((l1.length : Int) % t329) t346 _ ?side1 ?side2 A33.out).mono ?_); (case side1 => exact nc_ (rR4 HO_335001.out).2.2); (case side2 => exact (rR4 HO_335001.out).2.1); rintro e w35 ⟨v347, rfl, ho0, hb⟩; have n0_ := Aside0.mk (Kd.R_elder' (nr_ HO_7.out) (Kd.R_base ho0) hb); have n1_ := Aside0.mk (Kd.R_below (nr_ HO_335001.out) hb); have n2_ := Aside0.mk (Kd.R_lower (Kd.R_new' ho0 (Kd.R_lt (nr_ HO_7.out))) (below_size (ne_ HB.out))); have n3_ := Aside0.mk (blk_below (g := gb334) (o := .cells #[.int .i64 t329, .slice Ao12 t330.length co12] 25 (0, 0)) (nb_ BK334.out) hb); have n4_ := Aside0.mk (below_step (ne_ HB.out) hb); clear HO_7; clear HO_335001; clear BK334; clear HB; have HO_7 := n0_; have HO_335001 := n1_; have HO348 := n2_; have BK334 := n3_; have HB := n4_; clear n0_ n1_ n2_ n3_ n4_; (try clear hb); (try clear hb2); (try clear hk); (try clear hi); (try clear ho0))); try go_wp2_with (first | (go_at_call 14; (with_reducible refine (impl_NearAll.calls kj7 t329 _ _ t330 ((l1.length : Int) % t329) t346 _ ?side1 ?side2 A33.out).mono ?_); (case side1 => exact nc_ (rR4 HO_335001.out).2.2); (case side2 => exact (rR4 HO_335001.out).2.1); rintro e w35 ⟨v347, rfl, ho0, hb⟩; have n0_ := Aside0.mk (Kd.R_elder' (nr_ HO_7.out) (Kd.R_base ho0) hb); have n1_ := Aside0.mk (Kd.R_below (nr_ HO_335001.out) hb); have n2_ := Aside0.mk (Kd.R_lower (Kd.R_new' ho0 (Kd.R_lt (nr_ HO_7.out))) (below_size (ne_ HB.out))); have n3_ := Aside0.mk (blk_below (g := gb334) (o := .cells #[.int .i64 t329, .slice Ao12 t330.length co12] 25 (0, 0)) (nb_ BK334.out) hb); have n4_ := Aside0.mk (below_step (ne_ HB.out) hb); clear HO_7; clear HO_335001; clear BK334; clear HB; have HO_7 := n0_; have HO_335001 := n1_; have HO348 := n2_; have BK334 := n3_; have HB := n4_; clear n0_ n1_ n2_ n3_ n4_; (try clear hb); (try clear hb2); (try clear hk); (try clear hi); (try clear ho0))))
         go_loopg [10] kj7 (fun kq v10 w' => ∃ (x10_3 : Int), v10 = .int .i64 x10_3 ∧ Aside0 (laws_FnNearWay.l0 kq t335 ((l1.length : Int) % t329) t346 x10_3 t329 t330 = some r) ∧ Aside0 (kq ≤ kj7) ∧ Aside0 (Kd.R (Kd.int .i64) 3 w' w.heap.size (fun k_ => some k_ ≠ (v347 : Value).ownBlock) v336 t335) ∧ Aside0 (Kd.R (Kd.int .i64) 3 w' w.heap.size (fun k_ => some k_ ≠ (v336 : Value).ownBlock) v347 t346) ∧ Aside0 (Kd.R k33 33 w' w.heap.size (fun _ => True) (.slice Ao12 t330.length co12) t330) ∧ Aside0 (w'.heap[gb334]? = some (.cells #[.int .i64 t329, (.slice Ao12 t330.length co12)] 25 (0, 0))) ∧ Aside0 (Below w.heap.size w w'))
         case atStart => exact ⟨(0), ns_, H', ⟨Nat.le_refl _⟩, ⟨by (with_reducible repeat (first | apply Kd.R_alloc | apply Kd.R_drewN | apply Kd.R_drew)); exact Kd.R_mono HO_7.out (fun _ hk => by first | exact hk.2 | trivial | simp_all)⟩, ⟨by (with_reducible repeat (first | apply Kd.R_alloc | apply Kd.R_drewN | apply Kd.R_drew)); exact Kd.R_mono HO348.out (fun _ hk => by first | exact hk.2 | trivial | simp_all)⟩, ⟨by (with_reducible repeat (first | apply Kd.R_alloc | apply Kd.R_drewN | apply Kd.R_drew)); exact HO_335001.out⟩, ⟨by (with_reducible repeat (first | refine blk_drewN ?_ _ | refine blk_drew ?_ | refine blk_alloc ?_ _)); exact BK334.out⟩, ⟨by repeat (first | (with_reducible first | exact HB.out | apply below_alloc | apply pw_below_drewN | apply below_drew1 | refine below_set ?_ GE334.out) | exact HB.out)⟩⟩
         case round =>
          clear H'
          try clear c1
          try clear c2
          try clear p2
          try clear c3
          try clear c4
          try clear c4b0
          try clear c4b1
          try clear c5
          try clear c16
          try clear c25
          try clear c32
          try clear c32b0
          try clear c32b1
          try clear hcz11_0
          try clear hcz11_1
          try clear hcz17_0
          try clear hcz17_1
          try clear hcz21_0
          try clear hcz21_1
          try clear hcz28_0
          try clear hcz28_1
          try clear hcz34_0
          try clear hcz34_1
          try clear hfz11_0
          try clear hfz11_1
          try clear hfz17_0
          try clear hfz17_1
          try clear hfz21_0
          try clear hfz21_1
          try clear hfz28_0
          try clear hfz28_1
          try clear hfz34_0
          try clear hfz34_1
          try clear p2
          obtain ⟨x10_3, rfl, HA, HK3, HO_7, HO_9, HO_335001, BK334, HB⟩ := hrel
          cases gk with
          | zero => exact absurd HA.out (by simp [laws_FnNearWay.l0])
          | succ k3 =>
           have H := HA.out
           clear HA
           simp only [laws_FnNearWay.l0] at H
           by_cases c36 : x10_3 < t329
           ·rw [if_pos c36] at H
            have c36b0 : decide (x10_3 < t329) = true := decide_eq_true c36
            clear c36
            obtain ⟨ji37, hji37⟩ : ∃ j_ : Int, ((l1.length : Int) % t329) = j_ := ⟨_, rfl⟩
            replace H : (if 0 ≤ (ji37) then (if (ji37) < (t335.length : Int) then (if (rd t335 (ji37)) < 99999 then (if 0 ≤ x10_3 then (if x10_3 < (t346.length : Int) then (if (rd t346 x10_3) < 99999 then (if x10_3 < (t335.length : Int) then (if (rd t335 x10_3) > (wrap64 ((rd t335 (ji37)) + (rd t346 x10_3))) then (some false) else (laws_FnNearWay.l0 k3 t335 (ji37) t346 (wrap64 (x10_3 + 1)) t329 t330)) else (none)) else (laws_FnNearWay.l0 k3 t335 (ji37) t346 (wrap64 (x10_3 + 1)) t329 t330)) else (none)) else (none)) else (laws_FnNearWay.l0 k3 t335 (ji37) t346 (wrap64 (x10_3 + 1)) t329 t330)) else (none)) else (none)) = some r := by first | (rw [hji37] at H; exact H) | (simp only [hji37] at H ⊢; exact H)
            by_cases c38 : 0 ≤ (ji37)
            ·rw [if_pos c38] at H
             have c38b0 : decide (0 ≤ (ji37)) = true := decide_eq_true c38
             clear c38
             by_cases c39 : (ji37) < (t335.length : Int)
             ·rw [if_pos c39] at H
              have c39b0 : decide ((ji37) < (t335.length : Int)) = true := decide_eq_true c39
              clear c39
              by_cases c40 : (rd t335 (ji37)) < 99999
              ·rw [if_pos c40] at H
               have c40b0 : decide ((rd t335 (ji37)) < 99999) = true := decide_eq_true c40
               clear c40
               by_cases c41 : 0 ≤ x10_3
               ·rw [if_pos c41] at H
                have c41b0 : decide (0 ≤ x10_3) = true := decide_eq_true c41
                clear c41
                by_cases c42 : x10_3 < (t346.length : Int)
                ·rw [if_pos c42] at H
                 have c42b0 : decide (x10_3 < (t346.length : Int)) = true := decide_eq_true c42
                 clear c42
                 by_cases c43 : (rd t346 x10_3) < 99999
                 ·rw [if_pos c43] at H
                  have c43b0 : decide ((rd t346 x10_3) < 99999) = true := decide_eq_true c43
                  clear c43
                  by_cases c44 : x10_3 < (t335.length : Int)
                  ·rw [if_pos c44] at H
                   have c44b0 : decide (x10_3 < (t335.length : Int)) = true := decide_eq_true c44
                   clear c44
                   by_cases c45 : (rd t335 x10_3) > (wrap64 ((rd t335 (ji37)) + (rd t346 x10_3)))
                   ·rw [if_pos c45] at H
                    have c45b0 : decide ((wrap64 ((rd t335 (ji37)) + (rd t346 x10_3))) < (rd t335 x10_3)) = true := decide_eq_true c45
                    clear c45
                    obtain rfl := Option.some.inj H
                    have hcz46_0 : wr.cell? ⟨gb334, 0, none⟩ = some (.int .i64 t329) := (blk_cell BK334.out 0).trans rfl
                    have hcz46_1 : wr.cell? ⟨gb334, 1, none⟩ = some (.slice Ao12 t330.length co12) := (blk_cell BK334.out 1).trans rfl
                    have hfz46_0 := blk_frozen BK334.out 0
                    have hfz46_1 := blk_frozen BK334.out 1
                    obtain ⟨Ao47, co47, eo47⟩ := Kd.R_slice HO_7.out
                    subst eo47
                    have p349 : 0 ≤ ((ji37) : Int) := of_decide_eq_true nx_
                    have q349 : (ji37) < (t335.length : Int) := of_decide_eq_true nx_
                    obtain ⟨ad349, e349, hx349_0⟩ := Kd.at_int (rR4 HO_7.out).2.2 (ji37) p349 q349
                    cases e349
                    replace p349 := eq_true p349
                    replace q349 := eq_true q349
                    obtain ⟨Ao48, co48, eo48⟩ := Kd.R_slice HO_9.out
                    subst eo48
                    have p350 : 0 ≤ (x10_3 : Int) := of_decide_eq_true nx_
                    have q350 : x10_3 < (t346.length : Int) := of_decide_eq_true nx_
                    obtain ⟨ad350, e350, hx350_0⟩ := Kd.at_int (rR4 HO_9.out).2.2 x10_3 p350 q350
                    cases e350
                    replace p350 := eq_true p350
                    replace q350 := eq_true q350
                    have p351 : 0 ≤ (x10_3 : Int) := of_decide_eq_true nx_
                    have q351 : x10_3 < (t335.length : Int) := of_decide_eq_true nx_
                    obtain ⟨ad351, e351, hx351_0⟩ := Kd.at_int (rR4 HO_7.out).2.2 x10_3 p351 q351
                    obtain rfl : ad349 = ad351 := (by injection e351)
                    replace p351 := eq_true p351
                    replace q351 := eq_true q351
                    have p352 : 0 ≤ ((ji37) : Int) := of_decide_eq_true nx_
                    have q352 : (ji37) < (t335.length : Int) := of_decide_eq_true nx_
                    obtain ⟨ad352, e352, hx352_0⟩ := Kd.at_int (rR4 HO_7.out).2.2 (ji37) p352 q352
                    obtain rfl : ad349 = ad352 := (by injection e352)
                    replace p352 := eq_true p352
                    replace q352 := eq_true q352
                    have p353 : 0 ≤ (x10_3 : Int) := of_decide_eq_true nx_
                    have q353 : x10_3 < (t346.length : Int) := of_decide_eq_true nx_
                    obtain ⟨ad353, e353, hx353_0⟩ := Kd.at_int (rR4 HO_9.out).2.2 x10_3 p353 q353
                    obtain rfl : ad350 = ad353 := (by injection e353)
                    replace p353 := eq_true p353
                    replace q353 := eq_true q353
                    go_wp2
                    repeat (go_quiet (fail); try go_wp2)
                    go_ret
                    exact ⟨by first | rfl | (simp [errW_none, errW_some] <;> rfl) | (simp only [← hji37]; first | rfl | (simp [errW_none, errW_some] <;> rfl)) | (simp [*, errW_none, errW_some] <;> rfl), by repeat (first | (with_reducible first | exact HB.out | apply below_alloc | apply pw_below_drewN | apply below_drew1 | refine below_set ?_ GE334.out) | exact HB.out)⟩
                   ·rw [if_neg c45] at H
                    have c45b0 : decide ((wrap64 ((rd t335 (ji37)) + (rd t346 x10_3))) < (rd t335 x10_3)) = false := decide_eq_false c45
                    clear c45
                    have H' := Aside0.mk H
                    clear H
                    have hcz49_0 : wr.cell? ⟨gb334, 0, none⟩ = some (.int .i64 t329) := (blk_cell BK334.out 0).trans rfl
                    have hcz49_1 : wr.cell? ⟨gb334, 1, none⟩ = some (.slice Ao12 t330.length co12) := (blk_cell BK334.out 1).trans rfl
                    have hfz49_0 := blk_frozen BK334.out 0
                    have hfz49_1 := blk_frozen BK334.out 1
                    obtain ⟨Ao50, co50, eo50⟩ := Kd.R_slice HO_7.out
                    subst eo50
                    have p349 : 0 ≤ ((ji37) : Int) := of_decide_eq_true nx_
                    have q349 : (ji37) < (t335.length : Int) := of_decide_eq_true nx_
                    obtain ⟨ad349, e349, hx349_0⟩ := Kd.at_int (rR4 HO_7.out).2.2 (ji37) p349 q349
                    cases e349
                    replace p349 := eq_true p349
                    replace q349 := eq_true q349
                    obtain ⟨Ao51, co51, eo51⟩ := Kd.R_slice HO_9.out
                    subst eo51
                    have p350 : 0 ≤ (x10_3 : Int) := of_decide_eq_true nx_
                    have q350 : x10_3 < (t346.length : Int) := of_decide_eq_true nx_
                    obtain ⟨ad350, e350, hx350_0⟩ := Kd.at_int (rR4 HO_9.out).2.2 x10_3 p350 q350
                    cases e350
                    replace p350 := eq_true p350
                    replace q350 := eq_true q350
                    have p351 : 0 ≤ (x10_3 : Int) := of_decide_eq_true nx_
                    have q351 : x10_3 < (t335.length : Int) := of_decide_eq_true nx_
                    obtain ⟨ad351, e351, hx351_0⟩ := Kd.at_int (rR4 HO_7.out).2.2 x10_3 p351 q351
                    obtain rfl : ad349 = ad351 := (by injection e351)
                    replace p351 := eq_true p351
                    replace q351 := eq_true q351
                    have p352 : 0 ≤ ((ji37) : Int) := of_decide_eq_true nx_
                    have q352 : (ji37) < (t335.length : Int) := of_decide_eq_true nx_
                    obtain ⟨ad352, e352, hx352_0⟩ := Kd.at_int (rR4 HO_7.out).2.2 (ji37) p352 q352
                    obtain rfl : ad349 = ad352 := (by injection e352)
                    replace p352 := eq_true p352
                    replace q352 := eq_true q352
                    have p353 : 0 ≤ (x10_3 : Int) := of_decide_eq_true nx_
                    have q353 : x10_3 < (t346.length : Int) := of_decide_eq_true nx_
                    obtain ⟨ad353, e353, hx353_0⟩ := Kd.at_int (rR4 HO_9.out).2.2 x10_3 p353 q353
                    obtain rfl : ad350 = ad353 := (by injection e353)
                    replace p353 := eq_true p353
                    replace q353 := eq_true q353
                    go_wp2
                    repeat (go_quiet (fail); try go_wp2)
                    (try subst hji37)
                    go_roundg k3
                    case measure => have := HJ2.out; have := HJ7.out; have := HK3.out; omega
                    case rel => exact ⟨(wrap64 (x10_3 + 1)), ns_, H', ⟨by have := HJ2.out; have := HJ7.out; have := HK3.out; omega⟩, ⟨by (with_reducible repeat (first | apply Kd.R_alloc | apply Kd.R_drewN | apply Kd.R_drew)); exact HO_7.out⟩, ⟨by (with_reducible repeat (first | apply Kd.R_alloc | apply Kd.R_drewN | apply Kd.R_drew)); exact HO_9.out⟩, ⟨by (with_reducible repeat (first | apply Kd.R_alloc | apply Kd.R_drewN | apply Kd.R_drew)); exact HO_335001.out⟩, ⟨by (with_reducible repeat (first | refine blk_drewN ?_ _ | refine blk_drew ?_ | refine blk_alloc ?_ _)); exact BK334.out⟩, ⟨by repeat (first | (with_reducible first | exact HB.out | apply below_alloc | apply pw_below_drewN | apply below_drew1 | refine below_set ?_ GE334.out) | exact HB.out)⟩⟩
                  ·rw [if_neg c44] at H
                   exact absurd H (by simp)
                 ·rw [if_neg c43] at H
                  have c43b0 : decide ((rd t346 x10_3) < 99999) = false := decide_eq_false c43
                  clear c43
                  have H' := Aside0.mk H
                  clear H
                  have hcz52_0 : wr.cell? ⟨gb334, 0, none⟩ = some (.int .i64 t329) := (blk_cell BK334.out 0).trans rfl
                  have hcz52_1 : wr.cell? ⟨gb334, 1, none⟩ = some (.slice Ao12 t330.length co12) := (blk_cell BK334.out 1).trans rfl
                  have hfz52_0 := blk_frozen BK334.out 0
                  have hfz52_1 := blk_frozen BK334.out 1
                  obtain ⟨Ao53, co53, eo53⟩ := Kd.R_slice HO_7.out
                  subst eo53
                  have p349 : 0 ≤ ((ji37) : Int) := of_decide_eq_true nx_
                  have q349 : (ji37) < (t335.length : Int) := of_decide_eq_true nx_
                  obtain ⟨ad349, e349, hx349_0⟩ := Kd.at_int (rR4 HO_7.out).2.2 (ji37) p349 q349
                  cases e349
                  replace p349 := eq_true p349
                  replace q349 := eq_true q349
                  obtain ⟨Ao54, co54, eo54⟩ := Kd.R_slice HO_9.out
                  subst eo54
                  have p350 : 0 ≤ (x10_3 : Int) := of_decide_eq_true nx_
                  have q350 : x10_3 < (t346.length : Int) := of_decide_eq_true nx_
                  obtain ⟨ad350, e350, hx350_0⟩ := Kd.at_int (rR4 HO_9.out).2.2 x10_3 p350 q350
                  cases e350
                  replace p350 := eq_true p350
                  replace q350 := eq_true q350
                  go_wp2
                  repeat (go_quiet (fail); try go_wp2)
                  (try subst hji37)
                  go_roundg k3
                  case measure => have := HJ2.out; have := HJ7.out; have := HK3.out; omega
                  case rel => exact ⟨(wrap64 (x10_3 + 1)), ns_, H', ⟨by have := HJ2.out; have := HJ7.out; have := HK3.out; omega⟩, ⟨by (with_reducible repeat (first | apply Kd.R_alloc | apply Kd.R_drewN | apply Kd.R_drew)); exact HO_7.out⟩, ⟨by (with_reducible repeat (first | apply Kd.R_alloc | apply Kd.R_drewN | apply Kd.R_drew)); exact HO_9.out⟩, ⟨by (with_reducible repeat (first | apply Kd.R_alloc | apply Kd.R_drewN | apply Kd.R_drew)); exact HO_335001.out⟩, ⟨by (with_reducible repeat (first | refine blk_drewN ?_ _ | refine blk_drew ?_ | refine blk_alloc ?_ _)); exact BK334.out⟩, ⟨by repeat (first | (with_reducible first | exact HB.out | apply below_alloc | apply pw_below_drewN | apply below_drew1 | refine below_set ?_ GE334.out) | exact HB.out)⟩⟩
                ·rw [if_neg c42] at H
                 exact absurd H (by simp)
               ·rw [if_neg c41] at H
                exact absurd H (by simp)
              ·rw [if_neg c40] at H
               have c40b0 : decide ((rd t335 (ji37)) < 99999) = false := decide_eq_false c40
               clear c40
               have H' := Aside0.mk H
               clear H
               have hcz55_0 : wr.cell? ⟨gb334, 0, none⟩ = some (.int .i64 t329) := (blk_cell BK334.out 0).trans rfl
               have hcz55_1 : wr.cell? ⟨gb334, 1, none⟩ = some (.slice Ao12 t330.length co12) := (blk_cell BK334.out 1).trans rfl
               have hfz55_0 := blk_frozen BK334.out 0
               have hfz55_1 := blk_frozen BK334.out 1
               obtain ⟨Ao56, co56, eo56⟩ := Kd.R_slice HO_7.out
               subst eo56
               have p349 : 0 ≤ ((ji37) : Int) := of_decide_eq_true nx_
               have q349 : (ji37) < (t335.length : Int) := of_decide_eq_true nx_
               obtain ⟨ad349, e349, hx349_0⟩ := Kd.at_int (rR4 HO_7.out).2.2 (ji37) p349 q349
               cases e349
               replace p349 := eq_true p349
               replace q349 := eq_true q349
               go_wp2
               repeat (go_quiet (fail); try go_wp2)
               (try subst hji37)
               go_roundg k3
               case measure => have := HJ2.out; have := HJ7.out; have := HK3.out; omega
               case rel => exact ⟨(wrap64 (x10_3 + 1)), ns_, H', ⟨by have := HJ2.out; have := HJ7.out; have := HK3.out; omega⟩, ⟨by (with_reducible repeat (first | apply Kd.R_alloc | apply Kd.R_drewN | apply Kd.R_drew)); exact HO_7.out⟩, ⟨by (with_reducible repeat (first | apply Kd.R_alloc | apply Kd.R_drewN | apply Kd.R_drew)); exact HO_9.out⟩, ⟨by (with_reducible repeat (first | apply Kd.R_alloc | apply Kd.R_drewN | apply Kd.R_drew)); exact HO_335001.out⟩, ⟨by (with_reducible repeat (first | refine blk_drewN ?_ _ | refine blk_drew ?_ | refine blk_alloc ?_ _)); exact BK334.out⟩, ⟨by repeat (first | (with_reducible first | exact HB.out | apply below_alloc | apply pw_below_drewN | apply below_drew1 | refine below_set ?_ GE334.out) | exact HB.out)⟩⟩
             ·rw [if_neg c39] at H
              exact absurd H (by simp)
            ·rw [if_neg c38] at H
             exact absurd H (by simp)
           ·rw [if_neg c36] at H
            have c36b0 : decide (x10_3 < t329) = false := decide_eq_false c36
            clear c36
            obtain rfl := Option.some.inj H
            have hcz57_0 : wr.cell? ⟨gb334, 0, none⟩ = some (.int .i64 t329) := (blk_cell BK334.out 0).trans rfl
            have hcz57_1 : wr.cell? ⟨gb334, 1, none⟩ = some (.slice Ao12 t330.length co12) := (blk_cell BK334.out 1).trans rfl
            have hfz57_0 := blk_frozen BK334.out 0
            have hfz57_1 := blk_frozen BK334.out 1
            go_wp2
            repeat (go_quiet (fail); try go_wp2)
            go_ret
            exact ⟨by first | rfl | (simp [errW_none, errW_some] <;> rfl) | (simp [*, errW_none, errW_some] <;> rfl), by repeat (first | (with_reducible first | exact HB.out | apply below_alloc | apply pw_below_drewN | apply below_drew1 | refine below_set ?_ GE334.out) | exact HB.out)⟩

/-- THE ONE PURE STATEMENT of laws_FnNearWay: yours. -/
def laws_FnNearWay.Pure : Prop := ∀ (l0 : List Int) (l1 : List Int), l0.length ≤ maxLen → l0.length * 1 ≤ 140737488351232 → (∀ x ∈ l0, (Lit.int .u8 x).wf = true) → l1.length ≤ maxLen → l1.length * 1 ≤ 140737488351232 → (∀ x ∈ l1, (Lit.int .u8 x).wf = true) → ∃ k, laws_FnNearWay.f k l0 l1 = some true
theorem laws_FnNearWay.walk (P : laws_FnNearWay.Pure) (a0 : Option Addr) (len0 cap0 : Nat) (z0 : List Int) (a1 : Option Addr) (len1 cap1 : Nat) (z1 : List Int) (w : World) (w0 : (a0 = none ∧ len0 = 0 ∧ cap0 = 0 ∧ z0 = []) ∨ ∃ x, a0 = some x ∧ len0 ≤ cap0 ∧ cap0 ≤ maxLen ∧ z0.length = cap0 ∧ (∀ i, i < z0.length → w.cell? (x.add i) = some (.int .u8 (z0.getD i 0))) ∧ ∀ n ∈ z0, (Lit.int .u8 n).wf = true) (y0 : len0 * 1 ≤ 140737488351232) (w1 : (a1 = none ∧ len1 = 0 ∧ cap1 = 0 ∧ z1 = []) ∨ ∃ x, a1 = some x ∧ len1 ≤ cap1 ∧ cap1 ≤ maxLen ∧ z1.length = cap1 ∧ (∀ i, i < z1.length → w.cell? (x.add i) = some (.int .u8 (z1.getD i 0))) ∧ ∀ n ∈ z1, (Lit.int .u8 n).wf = true) (y1 : len1 * 1 ≤ 140737488351232) :
    Calls Try.prog 4 #[.slice a0 len0 cap0, .slice a1 len1 cap1] w fun e w' => e = .returned (.bool true) ∧ Below w.heap.size w w' := by
  obtain ⟨l0, rfl, hr0, hm0, hw0, hc0⟩ := ReadsInt.ofRowC w0
  obtain ⟨l1, rfl, hr1, hm1, hw1, hc1⟩ := ReadsInt.ofRowC w1
  obtain ⟨k, h⟩ := P l0 l1 hm0 y0 hw0 hm1 y1 hw1
  refine (laws_FnNearWay.calls k _ _ l0 _ _ l1 true w (Kd.C_of_reads (d := (0 : Int)) (h1 := fun _ => rfl) hr0) hc0 (Kd.C_of_reads (d := (0 : Int)) (h1 := fun _ => rfl) hr1) hc1 h).mono ?_
  rintro e w' ⟨rfl, hd⟩
  exact ⟨rfl, hd⟩

end Go.Proofs.Ytbmoonciggfbpaa.Print
