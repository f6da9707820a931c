-- Made by this session's own program (wip/patch_print.py, over the kit's print). Lean checks it.
import Derived.Test.YtbmoonciggfbpaaPrint0
import Derived.Test.YtbmoonciggfbpaaPrintB
import Derived.Test.YtbmoonciggfbpaaPrintF29
import Derived.Test.YtbmoonciggfbpaaPrintF31
import Derived.Test.YtbmoonciggfbpaaPrintF32
import Derived.Test.YtbmoonciggfbpaaPrintF33
namespace Go.Proofs.Ytbmoonciggfbpaa.Print
open Go.RowKit Go.Proofs.YtbmoonciggfbpaaW.PrintWords Go.Proofs.YtbmoonciggfbpaaW.PrintLast Go.Proofs.YtbmoonciggfbpaaW.PrintMore Go.Proofs.YtbmoonciggfbpaaX
attribute [local go_sem] max2_int min2_int max_two min_two max_three min_three max_four min_four   -- for this text's walks alone
set_option linter.unusedVariables false
set_option linter.unusedSimpArgs false

abbrev eZ9 := @below_size
abbrev rR9 := @Kd.R_reads'
/-! ### laws_FnNearTree: function 9 -/
mutual
def laws_FnNearTree.j0 : Nat → Int → List Int → Bool → Int → List (S33) → Option (Bool)
  | 0, _, _, _, _, _ => none
  | k + 1, x4, x5, x32, x714000, x714001 => if x32 = true then ((spec_NearTree.f k x714000 x714001 x4).bind fun t721 => ((laws_wkInts.f k x5 t721).bind fun t724 => (some t724))) else (laws_FnNearTree.l0 k x4 x5 0 x714000 x714001)
def laws_FnNearTree.l0 : Nat → Int → List Int → Int → Int → List (S33) → Option (Bool)
  | 0, _, _, _, _, _ => none
  | k + 1, x4, x5, x6, x714000, x714001 => if x6 < x714000 then (laws_FnNearTree.l1 k x4 x5 x6 (([] : List Int)) x6 x714000 x714001) else (if 0 ≤ x4 then (if x4 < (x5.length : Int) then (some ((rd x5 x4) == (-1))) else (none)) else (none))
def laws_FnNearTree.j3 : Nat → Int → List Int → Int → List Int → Int → Int → List (S33) → Option (Bool)
  | 0, _, _, _, _, _, _, _ => none
  | k + 1, x4, x5, x6, x7, x8, x714000, x714001 => (impl_NearWalk.f k x714000 x714001 x6 x4).bind fun bt736 => (if (bt736.2 != (x8 == x4)) = true then (some false) else (if bt736.2 = true then ((laws_wkInts.f k bt736.1 x7).bind fun t740 => (if t740 = true then (laws_FnNearTree.l0 k x4 x5 (wrap64 (x6 + 1)) x714000 x714001) else (some false))) else (laws_FnNearTree.l0 k x4 x5 (wrap64 (x6 + 1)) x714000 x714001)))
def laws_FnNearTree.l1 : Nat → Int → List Int → Int → List Int → Int → Int → List (S33) → Option (Bool)
  | 0, _, _, _, _, _, _, _ => none
  | k + 1, x4, x5, x6, x7, x8, x714000, x714001 => if x8 = x4 then (laws_FnNearTree.j3 k x4 x5 x6 x7 x8 x714000 x714001) else (if 0 ≤ x8 then (if x8 < (x5.length : Int) then (if (rd x5 x8) ≥ 0 then (if (x7.length : Int) ≤ x714000 then (if x7.length < 17592186044416 then (if 0 ≤ (rd x5 x8) then (if (rd x5 x8) < (x714001.length : Int) then (laws_FnNearTree.l1 k x4 x5 x6 (x7 ++ [rd x5 x8]) ((rd_T33 x714001 (rd x5 x8)).f1) x714000 x714001) else (none)) else (none)) else (none)) else (laws_FnNearTree.j3 k x4 x5 x6 x7 x8 x714000 x714001)) else (laws_FnNearTree.j3 k x4 x5 x6 x7 x8 x714000 x714001)) else (none)) else (none))
end
def laws_FnNearTree.f (k : Nat) (l0 : List Int) : Option (Bool) := if (l0.length : Int) > 1048576 then (some true) else ((spec_DrawNearTree.f k l0).bind fun bt708 => ((impl_NearTree.f k bt708.1 bt708.2.1 bt708.2.2).bind fun t714 => ((spec_NearTree.f k bt708.1 bt708.2.1 bt708.2.2).bind fun t717 => ((laws_wkInts.f k t714 t717).bind fun t720 => (if t720 = true then (laws_FnNearTree.j0 k bt708.2.2 t714 ((t714.length : Int) == 0) bt708.1 bt708.2.1) else (laws_FnNearTree.j0 k bt708.2.2 t714 true bt708.1 bt708.2.1))))))
theorem laws_FnNearTree.mono_l : ∀ k, (∀ y0 y1 y2 y3 y4, LeO (laws_FnNearTree.j0 k y0 y1 y2 y3 y4) (laws_FnNearTree.j0 (k + 1) y0 y1 y2 y3 y4)) ∧ (∀ y0 y1 y2 y3 y4, LeO (laws_FnNearTree.l0 k y0 y1 y2 y3 y4) (laws_FnNearTree.l0 (k + 1) y0 y1 y2 y3 y4)) ∧ (∀ y0 y1 y2 y3 y4 y5 y6, LeO (laws_FnNearTree.j3 k y0 y1 y2 y3 y4 y5 y6) (laws_FnNearTree.j3 (k + 1) y0 y1 y2 y3 y4 y5 y6)) ∧ (∀ y0 y1 y2 y3 y4 y5 y6, LeO (laws_FnNearTree.l1 k y0 y1 y2 y3 y4 y5 y6) (laws_FnNearTree.l1 (k + 1) y0 y1 y2 y3 y4 y5 y6))
  | 0 => ⟨fun _ _ _ _ _ r h => by simp [laws_FnNearTree.j0] at h, fun _ _ _ _ _ r h => by simp [laws_FnNearTree.l0] at h, fun _ _ _ _ _ _ _ r h => by simp [laws_FnNearTree.j3] at h, fun _ _ _ _ _ _ _ r h => by simp [laws_FnNearTree.l1] at h⟩
  | k + 1 => by
    obtain ⟨ih0, ih1, ih2, ih3⟩ := laws_FnNearTree.mono_l k
    refine ⟨?_, ?_, ?_, ?_⟩
    · intro y0 y1 y2 y3 y4
      unfold laws_FnNearTree.j0
      repeat' first | (with_reducible first | exact ih0 _ _ _ _ _ | exact ih1 _ _ _ _ _ | exact ih2 _ _ _ _ _ _ _ | exact ih3 _ _ _ _ _ _ _ | exact impl_NearTree.mono _ _ _ _ | exact impl_NearWalk.mono _ _ _ _ _ | exact laws_wkInts.mono _ _ _ | exact spec_DrawNearTree.mono _ _ | exact spec_NearTree.mono _ _ _ _ | exact LeO.refl _ | exact LeO.none _ | refine LeO.ite ?_ ?_ | refine LeO.bind ?_ (fun _ => ?_)) | exact ih0 _ _ _ _ _ | exact ih1 _ _ _ _ _ | exact ih2 _ _ _ _ _ _ _ | exact ih3 _ _ _ _ _ _ _ | exact impl_NearTree.mono _ _ _ _ | exact impl_NearWalk.mono _ _ _ _ _ | exact laws_wkInts.mono _ _ _ | exact spec_DrawNearTree.mono _ _ | exact spec_NearTree.mono _ _ _ _ | exact LeO.none _ | refine LeO.ite ?_ ?_ | refine LeO.bind ?_ (fun _ => ?_)
    · intro y0 y1 y2 y3 y4
      unfold laws_FnNearTree.l0
      repeat' first | (with_reducible first | exact ih0 _ _ _ _ _ | exact ih1 _ _ _ _ _ | exact ih2 _ _ _ _ _ _ _ | exact ih3 _ _ _ _ _ _ _ | exact impl_NearTree.mono _ _ _ _ | exact impl_NearWalk.mono _ _ _ _ _ | exact laws_wkInts.mono _ _ _ | exact spec_DrawNearTree.mono _ _ | exact spec_NearTree.mono _ _ _ _ | exact LeO.refl _ | exact LeO.none _ | refine LeO.ite ?_ ?_ | refine LeO.bind ?_ (fun _ => ?_)) | exact ih0 _ _ _ _ _ | exact ih1 _ _ _ _ _ | exact ih2 _ _ _ _ _ _ _ | exact ih3 _ _ _ _ _ _ _ | exact impl_NearTree.mono _ _ _ _ | exact impl_NearWalk.mono _ _ _ _ _ | exact laws_wkInts.mono _ _ _ | exact spec_DrawNearTree.mono _ _ | exact spec_NearTree.mono _ _ _ _ | exact LeO.none _ | refine LeO.ite ?_ ?_ | refine LeO.bind ?_ (fun _ => ?_)
    · intro y0 y1 y2 y3 y4 y5 y6
      unfold laws_FnNearTree.j3
      repeat' first | (with_reducible first | exact ih0 _ _ _ _ _ | exact ih1 _ _ _ _ _ | exact ih2 _ _ _ _ _ _ _ | exact ih3 _ _ _ _ _ _ _ | exact impl_NearTree.mono _ _ _ _ | exact impl_NearWalk.mono _ _ _ _ _ | exact laws_wkInts.mono _ _ _ | exact spec_DrawNearTree.mono _ _ | exact spec_NearTree.mono _ _ _ _ | exact LeO.refl _ | exact LeO.none _ | refine LeO.ite ?_ ?_ | refine LeO.bind ?_ (fun _ => ?_)) | exact ih0 _ _ _ _ _ | exact ih1 _ _ _ _ _ | exact ih2 _ _ _ _ _ _ _ | exact ih3 _ _ _ _ _ _ _ | exact impl_NearTree.mono _ _ _ _ | exact impl_NearWalk.mono _ _ _ _ _ | exact laws_wkInts.mono _ _ _ | exact spec_DrawNearTree.mono _ _ | exact spec_NearTree.mono _ _ _ _ | exact LeO.none _ | refine LeO.ite ?_ ?_ | refine LeO.bind ?_ (fun _ => ?_)
    · intro y0 y1 y2 y3 y4 y5 y6
      unfold laws_FnNearTree.l1
      repeat' first | (with_reducible first | exact ih0 _ _ _ _ _ | exact ih1 _ _ _ _ _ | exact ih2 _ _ _ _ _ _ _ | exact ih3 _ _ _ _ _ _ _ | exact impl_NearTree.mono _ _ _ _ | exact impl_NearWalk.mono _ _ _ _ _ | exact laws_wkInts.mono _ _ _ | exact spec_DrawNearTree.mono _ _ | exact spec_NearTree.mono _ _ _ _ | exact LeO.refl _ | exact LeO.none _ | refine LeO.ite ?_ ?_ | refine LeO.bind ?_ (fun _ => ?_)) | exact ih0 _ _ _ _ _ | exact ih1 _ _ _ _ _ | exact ih2 _ _ _ _ _ _ _ | exact ih3 _ _ _ _ _ _ _ | exact impl_NearTree.mono _ _ _ _ | exact impl_NearWalk.mono _ _ _ _ _ | exact laws_wkInts.mono _ _ _ | exact spec_DrawNearTree.mono _ _ | exact spec_NearTree.mono _ _ _ _ | exact LeO.none _ | refine LeO.ite ?_ ?_ | refine LeO.bind ?_ (fun _ => ?_)
theorem laws_FnNearTree.mono : ∀ a0 k, LeO (laws_FnNearTree.f k a0) (laws_FnNearTree.f (k + 1) a0) := by
  intro a0 k
  obtain ⟨ih0, ih1, ih2, ih3⟩ := laws_FnNearTree.mono_l k
  unfold laws_FnNearTree.f
  repeat' first | (with_reducible first | exact ih0 _ _ _ _ _ | exact ih1 _ _ _ _ _ | exact ih2 _ _ _ _ _ _ _ | exact ih3 _ _ _ _ _ _ _ | exact impl_NearTree.mono _ _ _ _ | exact impl_NearWalk.mono _ _ _ _ _ | exact laws_wkInts.mono _ _ _ | exact spec_DrawNearTree.mono _ _ | exact spec_NearTree.mono _ _ _ _ | exact LeO.refl _ | exact LeO.none _ | refine LeO.ite ?_ ?_ | refine LeO.bind ?_ (fun _ => ?_)) | exact ih0 _ _ _ _ _ | exact ih1 _ _ _ _ _ | exact ih2 _ _ _ _ _ _ _ | exact ih3 _ _ _ _ _ _ _ | exact impl_NearTree.mono _ _ _ _ | exact impl_NearWalk.mono _ _ _ _ _ | exact laws_wkInts.mono _ _ _ | exact spec_DrawNearTree.mono _ _ | exact spec_NearTree.mono _ _ _ _ | exact LeO.none _ | refine LeO.ite ?_ ?_ | refine LeO.bind ?_ (fun _ => ?_)
set_option maxHeartbeats 200000000 in
set_option maxRecDepth 100000 in
theorem laws_FnNearTree.calls (k : Nat) (A0 : Option Addr) (c0 : Nat) (l0 : List Int) (r : Bool) (w : World) (hr0 : Kd.C (Kd.int .u8) w A0 l0.length l0) (hc0 : l0.length ≤ c0) (h : laws_FnNearTree.f k l0 = some r) :
    Calls Try.prog 9 #[.slice A0 l0.length c0] w fun e w' => e = .returned (.bool r) ∧ Below w.heap.size w w' := by
  have hu25 := Try.underlying25
  have HR0 := Aside0.mk hr0
  have HC0 := Aside0.mk hc0
  clear hr0 hc0
  have HB := Aside0.mk (Below.refl w.heap.size w)
  have H : (if (l0.length : Int) > 1048576 then (some true) else ((spec_DrawNearTree.f k l0).bind fun bt708 => ((impl_NearTree.f k bt708.1 bt708.2.1 bt708.2.2).bind fun t714 => ((spec_NearTree.f k bt708.1 bt708.2.1 bt708.2.2).bind fun t717 => ((laws_wkInts.f k t714 t717).bind fun t720 => (if t720 = true then (laws_FnNearTree.j0 k bt708.2.2 t714 ((t714.length : Int) == 0) bt708.1 bt708.2.1) else (laws_FnNearTree.j0 k bt708.2.2 t714 true bt708.1 bt708.2.1))))))) = some r := h
  clear h
  by_cases c2 : (l0.length : Int) > 1048576
  ·rw [if_pos c2] at H
   have c2b0 : decide (1048576 < (l0.length : Int)) = true := decide_eq_true c2
   have c2b1 : decide (1048576 < l0.length) = true := decide_eq_true (by omega)
   clear c2
   obtain rfl := Option.some.inj H
   go_enter Try.func9, Try.ntmps9
   go_wp2
   repeat (go_quiet (fail); try go_wp2)
   go_ret
   exact ⟨nw_, ne_ HB.out⟩
  rw [if_neg c2] at H
  have c2b0 : decide (1048576 < (l0.length : Int)) = false := decide_eq_false c2
  have c2b1 : decide (1048576 < l0.length) = false := decide_eq_false (by omega)
  clear c2
  replace H := Option.bind_eq_some_iff.mp H
  obtain ⟨⟨t708, t709, t712⟩, A30, H⟩ := H
  replace H : ((impl_NearTree.f k t708 t709 t712).bind fun t714 => ((spec_NearTree.f k t708 t709 t712).bind fun t717 => ((laws_wkInts.f k t714 t717).bind fun t720 => (if t720 = true then (laws_FnNearTree.j0 k t712 t714 ((t714.length : Int) == 0) t708 t709) else (laws_FnNearTree.j0 k t712 t714 true t708 t709))))) = some r := H
  have A3 := Aside0.mk A30
  clear A30
  replace H := Option.bind_eq_some_iff.mp H
  obtain ⟨t714, A40, H⟩ := H
  replace H : ((spec_NearTree.f k t708 t709 t712).bind fun t717 => ((laws_wkInts.f k t714 t717).bind fun t720 => (if t720 = true then (laws_FnNearTree.j0 k t712 t714 ((t714.length : Int) == 0) t708 t709) else (laws_FnNearTree.j0 k t712 t714 true t708 t709)))) = some r := H
  have A4 := Aside0.mk A40
  clear A40
  have HC5 := Aside0.mk H
  clear H
  go_enter Try.func9, Try.ntmps9
  go_upto_region 5 with (first | (go_at_call 31; (with_reducible refine (spec_DrawNearTree.calls k _ _ l0 t708 t709 t712 _ ?side1 ?side2 A3.out).mono ?_); (case side1 => repeat (first | exact HR0.out | (with_reducible refine Kd.C_alloc ?_ _) | (with_reducible refine Kd.C_drewN ?_ _) | (with_reducible refine Kd.C_drew ?_))); (case side2 => exact HC0.out); rintro e w6 ⟨v710, rfl, ho0, hb⟩; have HO711 := Aside0.mk (Kd.R_lower ho0 (eZ9 (ne_ HB.out))); replace HB := kB_ HB hb; (try clear hb); (try clear hb2); (try clear hk); (try clear hi); (try clear ho0)) | ((with_reducible refine gate_dst (N := 3) rfl ?_); (try (refine gate_guard (by rfl) ?_; dsimp only)); refine bx_ 3 #[.int .i64 0, .slice none 0 0] 25 ?_; intro gb713 hg w7 hbox hb; have BK713 := Aside0.mk (hbox); have GW713 := Aside0.mk (zs_ hg (ne_ HB.out)); have GE713 := Aside0.mk (zs_ hg (ne_ HB.out)); replace HO711 := kR_ HO711 hb; replace HB := kB_ HB hb; clear hb hbox hg; obtain ⟨hcz8_0, hcz8_1, hfz8_0, hfz8_1⟩ := cz2_ BK713.out; obtain ⟨Ao9, co9, eo9⟩ := Kd.R_slice HO711.out; subst eo9) | (go_at_call 32; (with_reducible refine (impl_NearTree.calls k t708 _ _ t709 t712 t714 _ ?side1 ?side2 A4.out).mono ?_); (case side1 => refine (rR9 (e := 33) (base := w.heap.size) (ok := fun k_ => True) (n := t709.length) (c := co9) ?_).2.2; exact (by (with_reducible repeat (first | apply Kd.R_alloc | apply Kd.R_drewN | apply Kd.R_drew)); exact (Kd.R_mono (rf2_ (Kd.R_types HO711.out BK713.out (by decide))) (fun _ h_ => h_.1)))); (case side2 => exact (rR9 HO711.out).2.1); rintro e w10 ⟨v715, rfl, ho0, hb⟩; have HO716 := Aside0.mk (Kd.R_lower ho0 (eZ9 (ne_ HB.out))); replace HO711 := Aside0.mk (Kd.R_below (by (with_reducible repeat (first | apply Kd.R_alloc | apply Kd.R_drewN | apply Kd.R_drew)); exact (Kd.R_mono (rf2_ (Kd.R_types HO711.out BK713.out (by decide))) (fun _ h_ => h_.1))) hb); replace BK713 := Aside0.mk (blk_below (g := gb713) (o := .cells #[.int .i64 t708, .slice Ao9 t709.length co9] 25 (0, 0)) (np_ BK713.out) hb); replace HB := kB_ HB hb; (try clear hb); (try clear hb2); (try clear hk); (try clear hi); (try clear ho0)))
  repeat (go_quiet (first | (go_at_call 31; (with_reducible refine (spec_DrawNearTree.calls k _ _ l0 t708 t709 t712 _ ?side1 ?side2 A3.out).mono ?_); (case side1 => repeat (first | exact HR0.out | (with_reducible refine Kd.C_alloc ?_ _) | (with_reducible refine Kd.C_drewN ?_ _) | (with_reducible refine Kd.C_drew ?_))); (case side2 => exact HC0.out); rintro e w6 ⟨v710, rfl, ho0, hb⟩; have HO711 := Aside0.mk (Kd.R_lower ho0 (eZ9 (ne_ HB.out))); replace HB := kB_ HB hb; (try clear hb); (try clear hb2); (try clear hk); (try clear hi); (try clear ho0)) | ((with_reducible refine gate_dst (N := 3) rfl ?_); (try (refine gate_guard (by rfl) ?_; dsimp only)); refine bx_ 3 #[.int .i64 0, .slice none 0 0] 25 ?_; intro gb713 hg w7 hbox hb; have BK713 := Aside0.mk (hbox); have GW713 := Aside0.mk (zs_ hg (ne_ HB.out)); have GE713 := Aside0.mk (zs_ hg (ne_ HB.out)); replace HO711 := kR_ HO711 hb; replace HB := kB_ HB hb; clear hb hbox hg; obtain ⟨hcz8_0, hcz8_1, hfz8_0, hfz8_1⟩ := cz2_ BK713.out; obtain ⟨Ao9, co9, eo9⟩ := Kd.R_slice HO711.out; subst eo9) | (go_at_call 32; (with_reducible refine (impl_NearTree.calls k t708 _ _ t709 t712 t714 _ ?side1 ?side2 A4.out).mono ?_); (case side1 => refine (rR9 (e := 33) (base := w.heap.size) (ok := fun k_ => True) (n := t709.length) (c := co9) ?_).2.2; exact (by (with_reducible repeat (first | apply Kd.R_alloc | apply Kd.R_drewN | apply Kd.R_drew)); exact (Kd.R_mono (rf2_ (Kd.R_types HO711.out BK713.out (by decide))) (fun _ h_ => h_.1)))); (case side2 => exact (rR9 HO711.out).2.1); rintro e w10 ⟨v715, rfl, ho0, hb⟩; have HO716 := Aside0.mk (Kd.R_lower ho0 (eZ9 (ne_ HB.out))); replace HO711 := Aside0.mk (Kd.R_below (by (with_reducible repeat (first | apply Kd.R_alloc | apply Kd.R_drewN | apply Kd.R_drew)); exact (Kd.R_mono (rf2_ (Kd.R_types HO711.out BK713.out (by decide))) (fun _ h_ => h_.1))) hb); replace BK713 := Aside0.mk (blk_below (g := gb713) (o := .cells #[.int .i64 t708, .slice Ao9 t709.length co9] 25 (0, 0)) (np_ BK713.out) hb); replace HB := kB_ HB hb; (try clear hb); (try clear hb2); (try clear hk); (try clear hi); (try clear ho0))); go_upto_region 5 with (first | (go_at_call 31; (with_reducible refine (spec_DrawNearTree.calls k _ _ l0 t708 t709 t712 _ ?side1 ?side2 A3.out).mono ?_); (case side1 => repeat (first | exact HR0.out | (with_reducible refine Kd.C_alloc ?_ _) | (with_reducible refine Kd.C_drewN ?_ _) | (with_reducible refine Kd.C_drew ?_))); (case side2 => exact HC0.out); rintro e w6 ⟨v710, rfl, ho0, hb⟩; have HO711 := Aside0.mk (Kd.R_lower ho0 (eZ9 (ne_ HB.out))); replace HB := kB_ HB hb; (try clear hb); (try clear hb2); (try clear hk); (try clear hi); (try clear ho0)) | ((with_reducible refine gate_dst (N := 3) rfl ?_); (try (refine gate_guard (by rfl) ?_; dsimp only)); refine bx_ 3 #[.int .i64 0, .slice none 0 0] 25 ?_; intro gb713 hg w7 hbox hb; have BK713 := Aside0.mk (hbox); have GW713 := Aside0.mk (zs_ hg (ne_ HB.out)); have GE713 := Aside0.mk (zs_ hg (ne_ HB.out)); replace HO711 := kR_ HO711 hb; replace HB := kB_ HB hb; clear hb hbox hg; obtain ⟨hcz8_0, hcz8_1, hfz8_0, hfz8_1⟩ := cz2_ BK713.out; obtain ⟨Ao9, co9, eo9⟩ := Kd.R_slice HO711.out; subst eo9) | (go_at_call 32; (with_reducible refine (impl_NearTree.calls k t708 _ _ t709 t712 t714 _ ?side1 ?side2 A4.out).mono ?_); (case side1 => refine (rR9 (e := 33) (base := w.heap.size) (ok := fun k_ => True) (n := t709.length) (c := co9) ?_).2.2; exact (by (with_reducible repeat (first | apply Kd.R_alloc | apply Kd.R_drewN | apply Kd.R_drew)); exact (Kd.R_mono (rf2_ (Kd.R_types HO711.out BK713.out (by decide))) (fun _ h_ => h_.1)))); (case side2 => exact (rR9 HO711.out).2.1); rintro e w10 ⟨v715, rfl, ho0, hb⟩; have HO716 := Aside0.mk (Kd.R_lower ho0 (eZ9 (ne_ HB.out))); replace HO711 := Aside0.mk (Kd.R_below (by (with_reducible repeat (first | apply Kd.R_alloc | apply Kd.R_drewN | apply Kd.R_drew)); exact (Kd.R_mono (rf2_ (Kd.R_types HO711.out BK713.out (by decide))) (fun _ h_ => h_.1))) hb); replace BK713 := Aside0.mk (blk_below (g := gb713) (o := .cells #[.int .i64 t708, .slice Ao9 t709.length co9] 25 (0, 0)) (np_ BK713.out) hb); replace HB := kB_ HB hb; (try clear hb); (try clear hb2); (try clear hk); (try clear hi); (try clear ho0))))
  (try simp only [Act.put, List.setIfInBounds_toArray, List.set_cons_zero, List.set_cons_succ])
  go_cut [32] (fun v32 wc => ∃ (kq : Nat) (x32_4 : Bool), v32 = .bool x32_4 ∧ Aside0 (laws_FnNearTree.j0 kq t712 t714 x32_4 t708 t709 = some r) ∧ Aside0 (kq ≤ k) ∧ Aside0 (Kd.R (Kd.int .i64) 3 wc w.heap.size (fun _ => True) v715 t714) ∧ Aside0 (Kd.R k33 33 wc w.heap.size (fun _ => True) (.slice Ao9 t709.length co9) t709) ∧ Aside0 (wc.heap[gb713]? = some (.cells #[.int .i64 t708, (.slice Ao9 t709.length co9)] 25 (0, 0))) ∧ Aside0 (Below w.heap.size w wc))
  case first =>
   have H := HC5.out
   clear HC5
   replace H := Option.bind_eq_some_iff.mp H
   obtain ⟨t717, A110, H⟩ := H
   replace H : ((laws_wkInts.f k t714 t717).bind fun t720 => (if t720 = true then (laws_FnNearTree.j0 k t712 t714 ((t714.length : Int) == 0) t708 t709) else (laws_FnNearTree.j0 k t712 t714 true t708 t709))) = some r := H
   have A11 := Aside0.mk A110
   clear A110
   replace H := Option.bind_eq_some_iff.mp H
   obtain ⟨t720, A120, H⟩ := H
   replace H : (if t720 = true then (laws_FnNearTree.j0 k t712 t714 ((t714.length : Int) == 0) t708 t709) else (laws_FnNearTree.j0 k t712 t714 true t708 t709)) = some r := H
   have A12 := Aside0.mk A120
   clear A120
   by_cases c13 : t720 = true
   ·subst c13
    have H1 : (laws_FnNearTree.j0 k t712 t714 ((t714.length : Int) == 0) t708 t709) = some r := by rw [if_pos rfl] at H; exact H
    clear H
    have H := H1
    clear H1
    have H' := Aside0.mk H
    clear H
    obtain ⟨hcz14_0, hcz14_1, hfz14_0, hfz14_1⟩ := cz2_ BK713.out
    go_wp2_with (first | (go_at_call 33; (with_reducible refine (spec_NearTree.calls k t708 _ _ t709 t712 t717 _ ?side1 ?side2 A11.out).mono ?_); (case side1 => exact nc_ (rR9 HO711.out).2.2); (case side2 => exact (rR9 HO711.out).2.1); rintro e w15 ⟨v718, rfl, ho0, hb⟩; have HO719 := Aside0.mk (Kd.R_lower (Kd.R_new' ho0 (Kd.R_lt (nr_ HO716.out))) (eZ9 (ne_ HB.out))); replace HO711 := kR_ HO711 hb; replace HO716 := Aside0.mk (Kd.R_elder' (nr_ HO716.out) (Kd.R_base ho0) hb); replace BK713 := kb_ BK713 hb; replace HB := kB_ HB hb; (try clear hb); (try clear hb2); (try clear hk); (try clear hi); (try clear ho0); obtain ⟨Ao16, co16, eo16⟩ := Kd.R_slice HO716.out; subst eo16; obtain ⟨Ao17, co17, eo17⟩ := Kd.R_slice HO719.out; subst eo17) | (go_at_call 15; (with_reducible refine (laws_wkInts.calls k _ _ t714 _ _ t717 true _ ?side1 ?side2 ?side3 ?side4 A12.out).mono ?_); (case side1 => exact nc_ (rR9 HO716.out).2.2); (case side2 => exact (rR9 HO716.out).2.1); (case side3 => exact nc_ (rR9 HO719.out).2.2); (case side4 => exact (rR9 HO719.out).2.1); rintro e w' ⟨rfl, ⟨nd, rfl⟩⟩; (try first | exact ⟨rfl, _, World.drewN_drewN _ _ _⟩ | exact ⟨rfl, _, Eq.trans (World.drewN_drewN _ _ _) (congrArg (World.drewN _) (Nat.add_assoc _ _ _))⟩)))
    repeat (go_quiet (first | (go_at_call 33; (with_reducible refine (spec_NearTree.calls k t708 _ _ t709 t712 t717 _ ?side1 ?side2 A11.out).mono ?_); (case side1 => exact nc_ (rR9 HO711.out).2.2); (case side2 => exact (rR9 HO711.out).2.1); rintro e w15 ⟨v718, rfl, ho0, hb⟩; have HO719 := Aside0.mk (Kd.R_lower (Kd.R_new' ho0 (Kd.R_lt (nr_ HO716.out))) (eZ9 (ne_ HB.out))); replace HO711 := kR_ HO711 hb; replace HO716 := Aside0.mk (Kd.R_elder' (nr_ HO716.out) (Kd.R_base ho0) hb); replace BK713 := kb_ BK713 hb; replace HB := kB_ HB hb; (try clear hb); (try clear hb2); (try clear hk); (try clear hi); (try clear ho0); obtain ⟨Ao16, co16, eo16⟩ := Kd.R_slice HO716.out; subst eo16; obtain ⟨Ao17, co17, eo17⟩ := Kd.R_slice HO719.out; subst eo17) | (go_at_call 15; (with_reducible refine (laws_wkInts.calls k _ _ t714 _ _ t717 true _ ?side1 ?side2 ?side3 ?side4 A12.out).mono ?_); (case side1 => exact nc_ (rR9 HO716.out).2.2); (case side2 => exact (rR9 HO716.out).2.1); (case side3 => exact nc_ (rR9 HO719.out).2.2); (case side4 => exact (rR9 HO719.out).2.1); rintro e w' ⟨rfl, ⟨nd, rfl⟩⟩; (try first | exact ⟨rfl, _, World.drewN_drewN _ _ _⟩ | exact ⟨rfl, _, Eq.trans (World.drewN_drewN _ _ _) (congrArg (World.drewN _) (Nat.add_assoc _ _ _))⟩))); try go_wp2_with (first | (go_at_call 33; (with_reducible refine (spec_NearTree.calls k t708 _ _ t709 t712 t717 _ ?side1 ?side2 A11.out).mono ?_); (case side1 => exact nc_ (rR9 HO711.out).2.2); (case side2 => exact (rR9 HO711.out).2.1); rintro e w15 ⟨v718, rfl, ho0, hb⟩; have HO719 := Aside0.mk (Kd.R_lower (Kd.R_new' ho0 (Kd.R_lt (nr_ HO716.out))) (eZ9 (ne_ HB.out))); replace HO711 := kR_ HO711 hb; replace HO716 := Aside0.mk (Kd.R_elder' (nr_ HO716.out) (Kd.R_base ho0) hb); replace BK713 := kb_ BK713 hb; replace HB := kB_ HB hb; (try clear hb); (try clear hb2); (try clear hk); (try clear hi); (try clear ho0); obtain ⟨Ao16, co16, eo16⟩ := Kd.R_slice HO716.out; subst eo16; obtain ⟨Ao17, co17, eo17⟩ := Kd.R_slice HO719.out; subst eo17) | (go_at_call 15; (with_reducible refine (laws_wkInts.calls k _ _ t714 _ _ t717 true _ ?side1 ?side2 ?side3 ?side4 A12.out).mono ?_); (case side1 => exact nc_ (rR9 HO716.out).2.2); (case side2 => exact (rR9 HO716.out).2.1); (case side3 => exact nc_ (rR9 HO719.out).2.2); (case side4 => exact (rR9 HO719.out).2.1); rintro e w' ⟨rfl, ⟨nd, rfl⟩⟩; (try first | exact ⟨rfl, _, World.drewN_drewN _ _ _⟩ | exact ⟨rfl, _, Eq.trans (World.drewN_drewN _ _ _) (congrArg (World.drewN _) (Nat.add_assoc _ _ _))⟩))))
    go_meet
    case rel => exact ⟨_, (((t714.length : Int) == 0)), ns_, H', ⟨by first | omega | exact Nat.le_refl _⟩, ⟨by (with_reducible repeat (first | apply Kd.R_alloc | apply Kd.R_drewN | apply Kd.R_drew)); exact Kd.R_mono HO716.out (fun _ hk => trivial)⟩, ⟨nr_ HO711.out⟩, ⟨nb_ BK713.out⟩, ⟨ne_ HB.out⟩⟩
   replace c13 := Bool.eq_false_iff.mpr c13
   subst c13
   have H1 : (laws_FnNearTree.j0 k t712 t714 true t708 t709) = some r := by rw [if_neg (show ¬ (false = true) by decide)] at H; exact H
   clear H
   have H := H1
   clear H1
   have H' := Aside0.mk H
   clear H
   obtain ⟨hcz18_0, hcz18_1, hfz18_0, hfz18_1⟩ := cz2_ BK713.out
   go_wp2_with (first | (go_at_call 33; (with_reducible refine (spec_NearTree.calls k t708 _ _ t709 t712 t717 _ ?side1 ?side2 A11.out).mono ?_); (case side1 => exact nc_ (rR9 HO711.out).2.2); (case side2 => exact (rR9 HO711.out).2.1); rintro e w19 ⟨v718, rfl, ho0, hb⟩; have HO719 := Aside0.mk (Kd.R_lower (Kd.R_new' ho0 (Kd.R_lt (nr_ HO716.out))) (eZ9 (ne_ HB.out))); replace HO711 := kR_ HO711 hb; replace HO716 := Aside0.mk (Kd.R_elder' (nr_ HO716.out) (Kd.R_base ho0) hb); replace BK713 := kb_ BK713 hb; replace HB := kB_ HB hb; (try clear hb); (try clear hb2); (try clear hk); (try clear hi); (try clear ho0); obtain ⟨Ao20, co20, eo20⟩ := Kd.R_slice HO716.out; subst eo20; obtain ⟨Ao21, co21, eo21⟩ := Kd.R_slice HO719.out; subst eo21) | (go_at_call 15; (with_reducible refine (laws_wkInts.calls k _ _ t714 _ _ t717 false _ ?side1 ?side2 ?side3 ?side4 A12.out).mono ?_); (case side1 => exact nc_ (rR9 HO716.out).2.2); (case side2 => exact (rR9 HO716.out).2.1); (case side3 => exact nc_ (rR9 HO719.out).2.2); (case side4 => exact (rR9 HO719.out).2.1); rintro e w' ⟨rfl, ⟨nd, rfl⟩⟩; (try first | exact ⟨rfl, _, World.drewN_drewN _ _ _⟩ | exact ⟨rfl, _, Eq.trans (World.drewN_drewN _ _ _) (congrArg (World.drewN _) (Nat.add_assoc _ _ _))⟩)))
   repeat (go_quiet (first | (go_at_call 33; (with_reducible refine (spec_NearTree.calls k t708 _ _ t709 t712 t717 _ ?side1 ?side2 A11.out).mono ?_); (case side1 => exact nc_ (rR9 HO711.out).2.2); (case side2 => exact (rR9 HO711.out).2.1); rintro e w19 ⟨v718, rfl, ho0, hb⟩; have HO719 := Aside0.mk (Kd.R_lower (Kd.R_new' ho0 (Kd.R_lt (nr_ HO716.out))) (eZ9 (ne_ HB.out))); replace HO711 := kR_ HO711 hb; replace HO716 := Aside0.mk (Kd.R_elder' (nr_ HO716.out) (Kd.R_base ho0) hb); replace BK713 := kb_ BK713 hb; replace HB := kB_ HB hb; (try clear hb); (try clear hb2); (try clear hk); (try clear hi); (try clear ho0); obtain ⟨Ao20, co20, eo20⟩ := Kd.R_slice HO716.out; subst eo20; obtain ⟨Ao21, co21, eo21⟩ := Kd.R_slice HO719.out; subst eo21) | (go_at_call 15; (with_reducible refine (laws_wkInts.calls k _ _ t714 _ _ t717 false _ ?side1 ?side2 ?side3 ?side4 A12.out).mono ?_); (case side1 => exact nc_ (rR9 HO716.out).2.2); (case side2 => exact (rR9 HO716.out).2.1); (case side3 => exact nc_ (rR9 HO719.out).2.2); (case side4 => exact (rR9 HO719.out).2.1); rintro e w' ⟨rfl, ⟨nd, rfl⟩⟩; (try first | exact ⟨rfl, _, World.drewN_drewN _ _ _⟩ | exact ⟨rfl, _, Eq.trans (World.drewN_drewN _ _ _) (congrArg (World.drewN _) (Nat.add_assoc _ _ _))⟩))); try go_wp2_with (first | (go_at_call 33; (with_reducible refine (spec_NearTree.calls k t708 _ _ t709 t712 t717 _ ?side1 ?side2 A11.out).mono ?_); (case side1 => exact nc_ (rR9 HO711.out).2.2); (case side2 => exact (rR9 HO711.out).2.1); rintro e w19 ⟨v718, rfl, ho0, hb⟩; have HO719 := Aside0.mk (Kd.R_lower (Kd.R_new' ho0 (Kd.R_lt (nr_ HO716.out))) (eZ9 (ne_ HB.out))); replace HO711 := kR_ HO711 hb; replace HO716 := Aside0.mk (Kd.R_elder' (nr_ HO716.out) (Kd.R_base ho0) hb); replace BK713 := kb_ BK713 hb; replace HB := kB_ HB hb; (try clear hb); (try clear hb2); (try clear hk); (try clear hi); (try clear ho0); obtain ⟨Ao20, co20, eo20⟩ := Kd.R_slice HO716.out; subst eo20; obtain ⟨Ao21, co21, eo21⟩ := Kd.R_slice HO719.out; subst eo21) | (go_at_call 15; (with_reducible refine (laws_wkInts.calls k _ _ t714 _ _ t717 false _ ?side1 ?side2 ?side3 ?side4 A12.out).mono ?_); (case side1 => exact nc_ (rR9 HO716.out).2.2); (case side2 => exact (rR9 HO716.out).2.1); (case side3 => exact nc_ (rR9 HO719.out).2.2); (case side4 => exact (rR9 HO719.out).2.1); rintro e w' ⟨rfl, ⟨nd, rfl⟩⟩; (try first | exact ⟨rfl, _, World.drewN_drewN _ _ _⟩ | exact ⟨rfl, _, Eq.trans (World.drewN_drewN _ _ _) (congrArg (World.drewN _) (Nat.add_assoc _ _ _))⟩))))
   go_meet
   case rel => exact ⟨_, (true), ns_, H', ⟨by first | omega | exact Nat.le_refl _⟩, ⟨by (with_reducible repeat (first | apply Kd.R_alloc | apply Kd.R_drewN | apply Kd.R_drew)); exact Kd.R_mono HO716.out (fun _ hk => trivial)⟩, ⟨nr_ HO711.out⟩, ⟨nb_ BK713.out⟩, ⟨ne_ HB.out⟩⟩
  case rest =>
   clear HC5
   try clear c1
   try clear c2
   try clear c2b0
   try clear c2b1
   try clear p2
   try clear c9
   try clear c13
   try clear hcz14_0
   try clear hcz14_1
   try clear hcz18_0
   try clear hcz18_1
   try clear hcz8_0
   try clear hcz8_1
   try clear hfz14_0
   try clear hfz14_1
   try clear hfz18_0
   try clear hfz18_1
   try clear hfz8_0
   try clear hfz8_1
   obtain ⟨kq, x32_4, rfl, HA, HJ4, HO_5, HO_714001, BK713, HB⟩ := hcut
   cases kq with
   | zero => exact absurd HA.out (by simp [laws_FnNearTree.j0])
   | succ kj4 =>
    have H := HA.out
    clear HA
    simp only [laws_FnNearTree.j0] at H
    by_cases c22 : x32_4 = true
    ·subst c22
     have H1 : ((spec_NearTree.f kj4 t708 t709 t712).bind fun t721 => ((laws_wkInts.f kj4 t714 t721).bind fun t724 => (some t724))) = some r := by rw [if_pos rfl] at H; exact H
     clear H
     have H := H1
     clear H1
     replace H := Option.bind_eq_some_iff.mp H
     obtain ⟨t721, A230, H⟩ := H
     replace H : ((laws_wkInts.f kj4 t714 t721).bind fun t724 => (some t724)) = some r := H
     have A23 := Aside0.mk A230
     clear A230
     replace H := Option.bind_eq_some_iff.mp H
     obtain ⟨t724, A240, H⟩ := H
     replace H : (some t724) = some r := H
     have A24 := Aside0.mk A240
     clear A240
     obtain rfl := Option.some.inj H
     obtain ⟨hcz25_0, hcz25_1, hfz25_0, hfz25_1⟩ := cz2_ BK713.out
     go_wp2_with (first | (go_at_call 33; (with_reducible refine (spec_NearTree.calls kj4 t708 _ _ t709 t712 t721 _ ?side1 ?side2 A23.out).mono ?_); (case side1 => exact nc_ (rR9 HO_714001.out).2.2); (case side2 => exact (rR9 HO_714001.out).2.1); rintro e w26 ⟨v722, rfl, ho0, hb⟩; have HO723 := Aside0.mk (Kd.R_lower (Kd.R_new' ho0 (Kd.R_lt (nr_ HO_5.out))) (eZ9 (ne_ HB.out))); replace HO_5 := Aside0.mk (Kd.R_elder' (nr_ HO_5.out) (Kd.R_base ho0) hb); replace HO_714001 := kR_ HO_714001 hb; replace BK713 := kb_ BK713 hb; replace HB := kB_ HB hb; (try clear hb); (try clear hb2); (try clear hk); (try clear hi); (try clear ho0); obtain ⟨Ao27, co27, eo27⟩ := Kd.R_slice HO_5.out; subst eo27; obtain ⟨Ao28, co28, eo28⟩ := Kd.R_slice HO723.out; subst eo28) | (go_at_call 15; (with_reducible refine (laws_wkInts.calls kj4 _ _ t714 _ _ t721 t724 _ ?side1 ?side2 ?side3 ?side4 A24.out).mono ?_); (case side1 => exact nc_ (rR9 HO_5.out).2.2); (case side2 => exact (rR9 HO_5.out).2.1); (case side3 => exact nc_ (rR9 HO723.out).2.2); (case side4 => exact (rR9 HO723.out).2.1); rintro e w' ⟨rfl, ⟨nd, rfl⟩⟩; (try first | exact ⟨rfl, _, World.drewN_drewN _ _ _⟩ | exact ⟨rfl, _, Eq.trans (World.drewN_drewN _ _ _) (congrArg (World.drewN _) (Nat.add_assoc _ _ _))⟩)))
     repeat (go_quiet (first | (go_at_call 33; (with_reducible refine (spec_NearTree.calls kj4 t708 _ _ t709 t712 t721 _ ?side1 ?side2 A23.out).mono ?_); (case side1 => exact nc_ (rR9 HO_714001.out).2.2); (case side2 => exact (rR9 HO_714001.out).2.1); rintro e w26 ⟨v722, rfl, ho0, hb⟩; have HO723 := Aside0.mk (Kd.R_lower (Kd.R_new' ho0 (Kd.R_lt (nr_ HO_5.out))) (eZ9 (ne_ HB.out))); replace HO_5 := Aside0.mk (Kd.R_elder' (nr_ HO_5.out) (Kd.R_base ho0) hb); replace HO_714001 := kR_ HO_714001 hb; replace BK713 := kb_ BK713 hb; replace HB := kB_ HB hb; (try clear hb); (try clear hb2); (try clear hk); (try clear hi); (try clear ho0); obtain ⟨Ao27, co27, eo27⟩ := Kd.R_slice HO_5.out; subst eo27; obtain ⟨Ao28, co28, eo28⟩ := Kd.R_slice HO723.out; subst eo28) | (go_at_call 15; (with_reducible refine (laws_wkInts.calls kj4 _ _ t714 _ _ t721 t724 _ ?side1 ?side2 ?side3 ?side4 A24.out).mono ?_); (case side1 => exact nc_ (rR9 HO_5.out).2.2); (case side2 => exact (rR9 HO_5.out).2.1); (case side3 => exact nc_ (rR9 HO723.out).2.2); (case side4 => exact (rR9 HO723.out).2.1); rintro e w' ⟨rfl, ⟨nd, rfl⟩⟩; (try first | exact ⟨rfl, _, World.drewN_drewN _ _ _⟩ | exact ⟨rfl, _, Eq.trans (World.drewN_drewN _ _ _) (congrArg (World.drewN _) (Nat.add_assoc _ _ _))⟩))); try go_wp2_with (first | (go_at_call 33; (with_reducible refine (spec_NearTree.calls kj4 t708 _ _ t709 t712 t721 _ ?side1 ?side2 A23.out).mono ?_); (case side1 => exact nc_ (rR9 HO_714001.out).2.2); (case side2 => exact (rR9 HO_714001.out).2.1); rintro e w26 ⟨v722, rfl, ho0, hb⟩; have HO723 := Aside0.mk (Kd.R_lower (Kd.R_new' ho0 (Kd.R_lt (nr_ HO_5.out))) (eZ9 (ne_ HB.out))); replace HO_5 := Aside0.mk (Kd.R_elder' (nr_ HO_5.out) (Kd.R_base ho0) hb); replace HO_714001 := kR_ HO_714001 hb; replace BK713 := kb_ BK713 hb; replace HB := kB_ HB hb; (try clear hb); (try clear hb2); (try clear hk); (try clear hi); (try clear ho0); obtain ⟨Ao27, co27, eo27⟩ := Kd.R_slice HO_5.out; subst eo27; obtain ⟨Ao28, co28, eo28⟩ := Kd.R_slice HO723.out; subst eo28) | (go_at_call 15; (with_reducible refine (laws_wkInts.calls kj4 _ _ t714 _ _ t721 t724 _ ?side1 ?side2 ?side3 ?side4 A24.out).mono ?_); (case side1 => exact nc_ (rR9 HO_5.out).2.2); (case side2 => exact (rR9 HO_5.out).2.1); (case side3 => exact nc_ (rR9 HO723.out).2.2); (case side4 => exact (rR9 HO723.out).2.1); rintro e w' ⟨rfl, ⟨nd, rfl⟩⟩; (try first | exact ⟨rfl, _, World.drewN_drewN _ _ _⟩ | exact ⟨rfl, _, Eq.trans (World.drewN_drewN _ _ _) (congrArg (World.drewN _) (Nat.add_assoc _ _ _))⟩))))
     go_ret
     exact ⟨nw_, ne_ HB.out⟩
    replace c22 := Bool.eq_false_iff.mpr c22
    subst c22
    have H1 : (laws_FnNearTree.l0 kj4 t712 t714 0 t708 t709) = some r := by rw [if_neg (show ¬ (false = true) by decide)] at H; exact H
    clear H
    have H := H1
    clear H1
    have H' := Aside0.mk H
    clear H
    go_wp2
    repeat (go_quiet (fail); try go_wp2)
    go_loopg [6] kj4 (fun kq v6 w' => ∃ (x6_2 : Int), v6 = .int .i64 x6_2 ∧ Aside0 (laws_FnNearTree.l0 kq t712 t714 x6_2 t708 t709 = some r) ∧ Aside0 (kq ≤ kj4) ∧ Aside0 (Kd.R (Kd.int .i64) 3 w' w.heap.size (fun _ => True) v715 t714) ∧ Aside0 (Kd.R k33 33 w' w.heap.size (fun _ => True) (.slice Ao9 t709.length co9) t709) ∧ Aside0 (w'.heap[gb713]? = some (.cells #[.int .i64 t708, (.slice Ao9 t709.length co9)] 25 (0, 0))) ∧ Aside0 (Below w.heap.size w w'))
    case atStart => exact ⟨(0), ns_, H', ⟨Nat.le_refl _⟩, ⟨nr_ HO_5.out⟩, ⟨nr_ HO_714001.out⟩, ⟨nb_ BK713.out⟩, ⟨ne_ HB.out⟩⟩
    case round =>
     clear H'
     try clear c1
     try clear c2
     try clear c2b0
     try clear c2b1
     try clear p2
     try clear c9
     try clear c13
     try clear c22
     try clear hcz14_0
     try clear hcz14_1
     try clear hcz18_0
     try clear hcz18_1
     try clear hcz25_0
     try clear hcz25_1
     try clear hcz8_0
     try clear hcz8_1
     try clear hfz14_0
     try clear hfz14_1
     try clear hfz18_0
     try clear hfz18_1
     try clear hfz25_0
     try clear hfz25_1
     try clear hfz8_0
     try clear hfz8_1
     try clear p2
     obtain ⟨x6_2, rfl, HA, HK2, HO_5, HO_714001, BK713, HB⟩ := hrel
     cases gk with
     | zero => exact absurd HA.out (by simp [laws_FnNearTree.l0])
     | succ k2 =>
      have H := HA.out
      clear HA
      simp only [laws_FnNearTree.l0] at H
      by_cases c29 : x6_2 < t708
      rotate_left
      ·rw [if_neg c29] at H
       have c29b0 : decide (x6_2 < t708) = false := decide_eq_false c29
       clear c29
       by_cases c68 : 0 ≤ t712
       rotate_left
       ·rw [if_neg c68] at H
        exact absurd H (by simp)

       rw [if_pos c68] at H
       have c68b0 : decide (0 ≤ t712) = true := decide_eq_true c68
       clear c68
       by_cases c69 : t712 < (t714.length : Int)
       rotate_left
       ·rw [if_neg c69] at H
        exact absurd H (by simp)
       rw [if_pos c69] at H
       have c69b0 : decide (t712 < (t714.length : Int)) = true := decide_eq_true c69
       clear c69
       obtain rfl := Option.some.inj H
       obtain ⟨hcz70_0, hcz70_1, hfz70_0, hfz70_1⟩ := cz2_ BK713.out
       obtain ⟨Ao71, co71, eo71⟩ := Kd.R_slice HO_5.out
       subst eo71
       have p725 : 0 ≤ (t712 : Int) := of_decide_eq_true nx_
       have q725 : t712 < (t714.length : Int) := of_decide_eq_true nx_
       obtain ⟨ad725, e725, hx725_0⟩ := Kd.at_int (rR9 HO_5.out).2.2 t712 p725 q725
       cases e725
       replace p725 := eq_true p725
       replace q725 := eq_true q725
       go_wp2
       repeat (go_quiet (fail); try go_wp2)
       go_ret
       exact ⟨nw_, ne_ HB.out⟩
      rw [if_pos c29] at H
      have c29b0 : decide (x6_2 < t708) = true := decide_eq_true c29
      clear c29
      obtain ⟨y726, hy726⟩ : ∃ y_ : List Int, y_ = (([] : List Int)) := ⟨_, rfl⟩
      replace H : (laws_FnNearTree.l1 k2 t712 t714 x6_2 y726 x6_2 t708 t709) = some r := by first | (rw [hy726]; with_reducible exact H) | (have H2_ := (Option.bind_some _ _).symm.trans H; rw [hy726]; with_reducible exact H2_) | (have H2_ := (Option.bind_some _ _).symm.trans H; with_reducible exact H2_) | with_reducible exact H | (rw [hy726]; exact H) | exact H
      have Ny726 := Aside0.mk hy726
      clear hy726
      have HC30 := Aside0.mk H
      clear H
      obtain ⟨hcz31_0, hcz31_1, hfz31_0, hfz31_1⟩ := cz2_ BK713.out
      go_upto_block 2 with (first | ((with_reducible refine gate_dst (N := 44) rfl ?_); (try (refine gate_guard (by rfl) ?_; dsimp only)); refine Kd.R_lit (Kd.int .i64) _ 3 ?hg (N := 44) ?hd (xs := ([] : List Int)) (inner := []) (ok := fun _ => True) (okp := fun _ => True) ?hr ?hp (fun _ hk => hk) trivial (Below.refl _ _) (Nat.le_refl _) (by simp) ?_; (case hd => rfl); (case hg => rfl); (case hr => first | (go_simp; done) | (go_simp; rfl)); (case hp => exact (Reps.none _ _)); intro v727 w32 ho33 hb hg_ hnew_; clear hg_ hnew_; (first | rw [← Ny726.out] at ho33 | (simp only [Int.reduceToNat] at ho33; rw [← Ny726.out] at ho33)); have HO728 := Aside0.mk (Kd.R_lower (Kd.R_new' ho33 (Kd.R_lt (nr_ HO_5.out))) (eZ9 (ne_ HB.out))); replace HO_5 := Aside0.mk (Kd.R_elder' (nr_ HO_5.out) (Kd.R_base ho33) hb); replace HO_714001 := kR_ HO_714001 hb; replace BK713 := kb_ BK713 hb; replace HB := kB_ HB hb; clear hb ho33))
      repeat (go_quiet (first | ((with_reducible refine gate_dst (N := 44) rfl ?_); (try (refine gate_guard (by rfl) ?_; dsimp only)); refine Kd.R_lit (Kd.int .i64) _ 3 ?hg (N := 44) ?hd (xs := ([] : List Int)) (inner := []) (ok := fun _ => True) (okp := fun _ => True) ?hr ?hp (fun _ hk => hk) trivial (Below.refl _ _) (Nat.le_refl _) (by simp) ?_; (case hd => rfl); (case hg => rfl); (case hr => first | (go_simp; done) | (go_simp; rfl)); (case hp => exact (Reps.none _ _)); intro v727 w32 ho33 hb hg_ hnew_; clear hg_ hnew_; (first | rw [← Ny726.out] at ho33 | (simp only [Int.reduceToNat] at ho33; rw [← Ny726.out] at ho33)); have HO728 := Aside0.mk (Kd.R_lower (Kd.R_new' ho33 (Kd.R_lt (nr_ HO_5.out))) (eZ9 (ne_ HB.out))); replace HO_5 := Aside0.mk (Kd.R_elder' (nr_ HO_5.out) (Kd.R_base ho33) hb); replace HO_714001 := kR_ HO_714001 hb; replace BK713 := kb_ BK713 hb; replace HB := kB_ HB hb; clear hb ho33)); go_upto_block 2 with (first | ((with_reducible refine gate_dst (N := 44) rfl ?_); (try (refine gate_guard (by rfl) ?_; dsimp only)); refine Kd.R_lit (Kd.int .i64) _ 3 ?hg (N := 44) ?hd (xs := ([] : List Int)) (inner := []) (ok := fun _ => True) (okp := fun _ => True) ?hr ?hp (fun _ hk => hk) trivial (Below.refl _ _) (Nat.le_refl _) (by simp) ?_; (case hd => rfl); (case hg => rfl); (case hr => first | (go_simp; done) | (go_simp; rfl)); (case hp => exact (Reps.none _ _)); intro v727 w32 ho33 hb hg_ hnew_; clear hg_ hnew_; (first | rw [← Ny726.out] at ho33 | (simp only [Int.reduceToNat] at ho33; rw [← Ny726.out] at ho33)); have HO728 := Aside0.mk (Kd.R_lower (Kd.R_new' ho33 (Kd.R_lt (nr_ HO_5.out))) (eZ9 (ne_ HB.out))); replace HO_5 := Aside0.mk (Kd.R_elder' (nr_ HO_5.out) (Kd.R_base ho33) hb); replace HO_714001 := kR_ HO_714001 hb; replace BK713 := kb_ BK713 hb; replace HB := kB_ HB hb; clear hb ho33)))
      (try simp only [Act.put, List.setIfInBounds_toArray, List.set_cons_zero, List.set_cons_succ])
      go_cut [7, 8] (fun v7 v8 wc => ∃ (kq : Nat) (x7_29 : List Int) (x8_29 : Int), v8 = .int .i64 x8_29 ∧ Aside0 (laws_FnNearTree.j3 kq t712 t714 x6_2 x7_29 x8_29 t708 t709 = some r) ∧ Aside0 (kq ≤ k2) ∧ Aside0 (Kd.R (Kd.int .i64) 3 wc w.heap.size (fun k_ => some k_ ≠ (v7 : Value).ownBlock) v715 t714) ∧ Aside0 (Kd.R (Kd.int .i64) 3 wc w.heap.size (fun k_ => some k_ ≠ (v715 : Value).ownBlock) v7 x7_29) ∧ Aside0 (Kd.R k33 33 wc w.heap.size (fun _ => True) (.slice Ao9 t709.length co9) t709) ∧ Aside0 (wc.heap[gb713]? = some (.cells #[.int .i64 t708, (.slice Ao9 t709.length co9)] 25 (0, 0))) ∧ Aside0 (Below w.heap.size w wc))
      case first =>
       have H := HC30.out
       clear HC30
       have H' := Aside0.mk H
       clear H
       go_wp2
       repeat (go_quiet (fail); try go_wp2)
       go_loopg [7, 8] k2 (fun kq v7 v8 w' => ∃ (x7_3 : List Int) (x8_3 : Int), v8 = .int .i64 x8_3 ∧ Aside0 (laws_FnNearTree.l1 kq t712 t714 x6_2 x7_3 x8_3 t708 t709 = some r) ∧ Aside0 (kq ≤ k2) ∧ Aside0 (Kd.R (Kd.int .i64) 3 w' w.heap.size (fun k_ => some k_ ≠ (v7 : Value).ownBlock) v715 t714) ∧ Aside0 (Kd.R (Kd.int .i64) 3 w' w.heap.size (fun k_ => some k_ ≠ (v715 : Value).ownBlock) v7 x7_3) ∧ Aside0 (Kd.R k33 33 w' w.heap.size (fun _ => True) (.slice Ao9 t709.length co9) t709) ∧ Aside0 (w'.heap[gb713]? = some (.cells #[.int .i64 t708, (.slice Ao9 t709.length co9)] 25 (0, 0))) ∧ Aside0 (Below w.heap.size w w'))
       case atStart => exact ⟨(y726), (x6_2), ns_, H', ⟨Nat.le_refl _⟩, ⟨by (with_reducible repeat (first | apply Kd.R_alloc | apply Kd.R_drewN | apply Kd.R_drew)); exact Kd.R_mono HO_5.out (fun _ hk => by first | exact hk.2 | trivial | simp_all)⟩, ⟨by (with_reducible repeat (first | apply Kd.R_alloc | apply Kd.R_drewN | apply Kd.R_drew)); exact Kd.R_mono HO728.out (fun _ hk => by first | exact hk.2 | trivial | simp_all)⟩, ⟨nr_ HO_714001.out⟩, ⟨nb_ BK713.out⟩, ⟨ne_ HB.out⟩⟩
       case round =>
        clear H'
        try clear c1
        try clear c2
        try clear c2b0
        try clear c2b1
        try clear p2
        try clear c9
        try clear c13
        try clear c22
        try clear c29
        try clear c29b0
        try clear hcz14_0
        try clear hcz14_1
        try clear hcz18_0
        try clear hcz18_1
        try clear hcz25_0
        try clear hcz25_1
        try clear hcz31_0
        try clear hcz31_1
        try clear hcz8_0
        try clear hcz8_1
        try clear hfz14_0
        try clear hfz14_1
        try clear hfz18_0
        try clear hfz18_1
        try clear hfz25_0
        try clear hfz25_1
        try clear hfz31_0
        try clear hfz31_1
        try clear hfz8_0
        try clear hfz8_1
        try clear p2
        obtain ⟨x7_3, x8_3, rfl, HA, HK3, HO_5, HO_7, HO_714001, BK713, HB⟩ := hrel
        cases gk with
        | zero => exact absurd HA.out (by simp [laws_FnNearTree.l1])
        | succ k3 =>
         have H := HA.out
         clear HA
         simp only [laws_FnNearTree.l1] at H
         by_cases c34 : x8_3 = t712
         ·rw [if_pos c34] at H
          have c34b0 : (x8_3 == t712) = true := beq_iff_eq.mpr c34
          have c34b1 : (x8_3 != t712) = false := bne_eq_false_iff_eq.mpr c34
          clear c34
          (first | rw [c34b0] | (simp only [i64_w, i32_w]; rw [c34b0]) | skip)
          have H' := Aside0.mk H
          clear H
          go_wp2
          repeat (go_quiet (fail); try go_wp2)
          go_meet
          case rel => exact ⟨_, (x7_3), (x8_3), ns_, H', ⟨by have := HJ4.out; have := HK2.out; have := HK3.out; first | omega | exact Nat.le_refl _⟩, ⟨nr_ HO_5.out⟩, ⟨nr_ HO_7.out⟩, ⟨nr_ HO_714001.out⟩, ⟨nb_ BK713.out⟩, ⟨ne_ HB.out⟩⟩
         rw [if_neg c34] at H
         have c34b0 : (x8_3 == t712) = false := beq_eq_false_iff_ne.mpr c34
         have c34b1 : (x8_3 != t712) = true := bne_iff_ne.mpr c34
         (first | rw [c34b0] | (simp only [i64_w, i32_w]; rw [c34b0]) | skip)
         by_cases c35 : 0 ≤ x8_3
         rotate_left
         ·rw [if_neg c35] at H
          exact absurd H (by simp)
         rw [if_pos c35] at H
         have c35b0 : decide (0 ≤ x8_3) = true := decide_eq_true c35
         clear c35
         by_cases c36 : x8_3 < (t714.length : Int)
         rotate_left
         ·rw [if_neg c36] at H
          exact absurd H (by simp)
         rw [if_pos c36] at H
         have c36b0 : decide (x8_3 < (t714.length : Int)) = true := decide_eq_true c36
         clear c36
         by_cases c37 : (rd t714 x8_3) ≥ 0
         rotate_left
         ·rw [if_neg c37] at H
          have c37b0 : decide (0 ≤ (rd t714 x8_3)) = false := decide_eq_false c37
          clear c37
          have H' := Aside0.mk H
          clear H
          obtain ⟨Ao50, co50, eo50⟩ := Kd.R_slice HO_5.out
          subst eo50
          have p729 : 0 ≤ (x8_3 : Int) := of_decide_eq_true nx_
          have q729 : x8_3 < (t714.length : Int) := of_decide_eq_true nx_
          obtain ⟨ad729, e729, hx729_0⟩ := Kd.at_int (rR9 HO_5.out).2.2 x8_3 p729 q729
          cases e729
          replace p729 := eq_true p729
          replace q729 := eq_true q729
          go_wp2
          repeat (go_quiet (fail); try go_wp2)
          go_meet
          case rel => exact ⟨_, (x7_3), (x8_3), ns_, H', ⟨by have := HJ4.out; have := HK2.out; have := HK3.out; first | omega | exact Nat.le_refl _⟩, ⟨nr_ HO_5.out⟩, ⟨nr_ HO_7.out⟩, ⟨nr_ HO_714001.out⟩, ⟨nb_ BK713.out⟩, ⟨ne_ HB.out⟩⟩
         rw [if_pos c37] at H
         have c37b0 : decide (0 ≤ (rd t714 x8_3)) = true := decide_eq_true c37
         clear c37
         by_cases c38 : (x7_3.length : Int) ≤ t708
         rotate_left
         ·rw [if_neg c38] at H
          have c38b0 : decide ((x7_3.length : Int) ≤ t708) = false := decide_eq_false c38
          clear c38
          have H' := Aside0.mk H
          clear H
          obtain ⟨Ao47, co47, eo47⟩ := Kd.R_slice HO_5.out
          subst eo47
          have p729 : 0 ≤ (x8_3 : Int) := of_decide_eq_true nx_
          have q729 : x8_3 < (t714.length : Int) := of_decide_eq_true nx_
          obtain ⟨ad729, e729, hx729_0⟩ := Kd.at_int (rR9 HO_5.out).2.2 x8_3 p729 q729
          cases e729
          replace p729 := eq_true p729
          replace q729 := eq_true q729
          obtain ⟨Ao48, co48, eo48⟩ := Kd.R_slice HO_7.out
          subst eo48
          obtain ⟨hcz49_0, hcz49_1, hfz49_0, hfz49_1⟩ := cz2_ BK713.out
          go_wp2
          repeat (go_quiet (fail); try go_wp2)
          go_meet
          case rel => exact ⟨_, (x7_3), (x8_3), ns_, H', ⟨by have := HJ4.out; have := HK2.out; have := HK3.out; first | omega | exact Nat.le_refl _⟩, ⟨nr_ HO_5.out⟩, ⟨nr_ HO_7.out⟩, ⟨nr_ HO_714001.out⟩, ⟨nb_ BK713.out⟩, ⟨ne_ HB.out⟩⟩
         rw [if_pos c38] at H
         have c38b0 : decide ((x7_3.length : Int) ≤ t708) = true := decide_eq_true c38
         clear c38
         by_cases c39 : x7_3.length < 17592186044416
         rotate_left
         ·rw [if_neg c39] at H
          exact absurd H (by simp)
         rw [if_pos c39] at H
         have LMc39 := Aside0.mk c39
         clear c39
         obtain ⟨y731, hy731⟩ : ∃ y_ : List Int, y_ = (x7_3 ++ [rd t714 x8_3]) := ⟨_, rfl⟩
         replace H : (if 0 ≤ (rd t714 x8_3) then (if (rd t714 x8_3) < (t709.length : Int) then (laws_FnNearTree.l1 k3 t712 t714 x6_2 y731 ((rd_T33 t709 (rd t714 x8_3)).f1) t708 t709) else (none)) else (none)) = some r := by first | (rw [hy731]; with_reducible exact H) | (have H2_ := (Option.bind_some _ _).symm.trans H; rw [hy731]; with_reducible exact H2_) | (have H2_ := (Option.bind_some _ _).symm.trans H; with_reducible exact H2_) | with_reducible exact H | (rw [hy731]; exact H) | exact H
         have Ny731 := Aside0.mk hy731
         clear hy731
         by_cases c40 : 0 ≤ (rd t714 x8_3)
         rotate_left
         ·rw [if_neg c40] at H
          exact absurd H (by simp)
         rw [if_pos c40] at H
         have c40b0 : decide (0 ≤ (rd t714 x8_3)) = true := decide_eq_true c40
         clear c40
         by_cases c41 : (rd t714 x8_3) < (t709.length : Int)
         rotate_left
         ·rw [if_neg c41] at H
          exact absurd H (by simp)
         rw [if_pos c41] at H
         have c41b0 : decide ((rd t714 x8_3) < (t709.length : Int)) = true := decide_eq_true c41
         clear c41
         have H' := Aside0.mk H
         clear H
         obtain ⟨Ao42, co42, eo42⟩ := Kd.R_slice HO_5.out
         subst eo42
         have p729 : 0 ≤ (x8_3 : Int) := of_decide_eq_true nx_
         have q729 : x8_3 < (t714.length : Int) := of_decide_eq_true nx_
         obtain ⟨ad729, e729, hx729_0⟩ := Kd.at_int (rR9 HO_5.out).2.2 x8_3 p729 q729
         cases e729
         replace p729 := eq_true p729
         replace q729 := eq_true q729
         obtain ⟨Ao43, co43, eo43⟩ := Kd.R_slice HO_7.out
         subst eo43
         obtain ⟨hcz44_0, hcz44_1, hfz44_0, hfz44_1⟩ := cz2_ BK713.out
         have p730 : 0 ≤ (x8_3 : Int) := of_decide_eq_true nx_
         have q730 : x8_3 < (t714.length : Int) := of_decide_eq_true nx_
         obtain ⟨ad730, e730, hx730_0⟩ := Kd.at_int (rR9 HO_5.out).2.2 x8_3 p730 q730
         obtain rfl : ad729 = ad730 := (by injection e730)
         replace p730 := eq_true p730
         replace q730 := eq_true q730
         go_wp2_with (first | ((with_reducible refine gate_builtin (b := .append) (xs := #[.tmp 63, .tmp 68]) rfl ?_); (try (refine gate_guard (by rfl) ?_; dsimp only)); at_builtin; refine Kd.R_append (Kd.int .i64) (w0 := w) w.heap.size rfl (.tmp 63) (.tmp 68) 28 3 (.int .i64 0) 8 rfl Try.underlying28 info3 rfl (by decide) (by omega) (.slice Ao43 x7_3.length co43) x7_3 (rd t714 x8_3) [.int .i64 (rd t714 x8_3)] (fun k_ => some k_ ≠ (.slice (some ad729) t714.length co42 : Value).ownBlock) (fun _ => False) rfl rfl ?aP (fun _ hk => hk.elim) ?aF ?aO ?aB ?aS ?aL ?_; (case aP => exact rfl); (case aB => exact (ne_ HB.out)); (case aF => exact (fun k_ hk => Kd.fresh' (Kd.R_lt (nr_ HO_5.out)) k_ hk)); (case aO => exact (nr_ HO_7.out)); (case aS => exact (eZ9 (ne_ HB.out))); (case aL => have := LMc39.out; omega); intro v732 w45 ho hb hg hat; rw [← Ny731.out] at ho; have HO733 := Aside0.mk (ho); replace HO_5 := Aside0.mk (Kd.R_after (ok := (fun _ => True)) (by (with_reducible repeat (first | apply Kd.R_alloc | apply Kd.R_drewN | apply Kd.R_drew)); exact Kd.R_mono HO_5.out (fun _ hk => by first | exact ⟨trivial, hk⟩ | trivial | simp_all)) hg hat); replace HO_714001 := Aside0.mk (Kd.R_over' (nr_ HO_714001.out) (Kd.R_typed (nr_ HO_7.out)) (by decide) hg); replace BK713 := Aside0.mk (blk_grown (g := gb713) (o := .cells #[.int .i64 t708, .slice Ao9 t709.length co9] 25 (0, 0)) (nb_ BK713.out) hg (Kd.R_ne HO_7.out BK713.out (by decide))); replace HB := Aside0.mk (hb); clear HO_7; clear ho hb hg hat; obtain ⟨hcz46_0, hcz46_1, hfz46_0, hfz46_1⟩ := cz2_ BK713.out; have p734 : 0 ≤ (x8_3 : Int) := of_decide_eq_true nx_; have q734 : x8_3 < (t714.length : Int) := of_decide_eq_true nx_; obtain ⟨ad734, e734, hx734_0⟩ := Kd.at_int (rR9 HO_5.out).2.2 x8_3 p734 q734; obtain rfl : ad729 = ad734 := (by injection e734); replace p734 := eq_true p734; replace q734 := eq_true q734; have p735 : 0 ≤ ((rd t714 x8_3) : Int) := of_decide_eq_true nx_; have q735 : (rd t714 x8_3) < (t709.length : Int) := of_decide_eq_true nx_; obtain ⟨ad735, e735, hx735_0, hx735_1, hx735_2, hx735_3, hx735_4⟩ := at_T33 (rR9 HO_714001.out).2.2 (rd t714 x8_3) p735 q735; cases e735; replace p735 := eq_true p735; replace q735 := eq_true q735))
         repeat (go_quiet (first | ((with_reducible refine gate_builtin (b := .append) (xs := #[.tmp 63, .tmp 68]) rfl ?_); (try (refine gate_guard (by rfl) ?_; dsimp only)); at_builtin; refine Kd.R_append (Kd.int .i64) (w0 := w) w.heap.size rfl (.tmp 63) (.tmp 68) 28 3 (.int .i64 0) 8 rfl Try.underlying28 info3 rfl (by decide) (by omega) (.slice Ao43 x7_3.length co43) x7_3 (rd t714 x8_3) [.int .i64 (rd t714 x8_3)] (fun k_ => some k_ ≠ (.slice (some ad729) t714.length co42 : Value).ownBlock) (fun _ => False) rfl rfl ?aP (fun _ hk => hk.elim) ?aF ?aO ?aB ?aS ?aL ?_; (case aP => exact rfl); (case aB => exact (ne_ HB.out)); (case aF => exact (fun k_ hk => Kd.fresh' (Kd.R_lt (nr_ HO_5.out)) k_ hk)); (case aO => exact (nr_ HO_7.out)); (case aS => exact (eZ9 (ne_ HB.out))); (case aL => have := LMc39.out; omega); intro v732 w45 ho hb hg hat; rw [← Ny731.out] at ho; have HO733 := Aside0.mk (ho); replace HO_5 := Aside0.mk (Kd.R_after (ok := (fun _ => True)) (by (with_reducible repeat (first | apply Kd.R_alloc | apply Kd.R_drewN | apply Kd.R_drew)); exact Kd.R_mono HO_5.out (fun _ hk => by first | exact ⟨trivial, hk⟩ | trivial | simp_all)) hg hat); replace HO_714001 := Aside0.mk (Kd.R_over' (nr_ HO_714001.out) (Kd.R_typed (nr_ HO_7.out)) (by decide) hg); replace BK713 := Aside0.mk (blk_grown (g := gb713) (o := .cells #[.int .i64 t708, .slice Ao9 t709.length co9] 25 (0, 0)) (nb_ BK713.out) hg (Kd.R_ne HO_7.out BK713.out (by decide))); replace HB := Aside0.mk (hb); clear HO_7; clear ho hb hg hat; obtain ⟨hcz46_0, hcz46_1, hfz46_0, hfz46_1⟩ := cz2_ BK713.out; have p734 : 0 ≤ (x8_3 : Int) := of_decide_eq_true nx_; have q734 : x8_3 < (t714.length : Int) := of_decide_eq_true nx_; obtain ⟨ad734, e734, hx734_0⟩ := Kd.at_int (rR9 HO_5.out).2.2 x8_3 p734 q734; obtain rfl : ad729 = ad734 := (by injection e734); replace p734 := eq_true p734; replace q734 := eq_true q734; have p735 : 0 ≤ ((rd t714 x8_3) : Int) := of_decide_eq_true nx_; have q735 : (rd t714 x8_3) < (t709.length : Int) := of_decide_eq_true nx_; obtain ⟨ad735, e735, hx735_0, hx735_1, hx735_2, hx735_3, hx735_4⟩ := at_T33 (rR9 HO_714001.out).2.2 (rd t714 x8_3) p735 q735; cases e735; replace p735 := eq_true p735; replace q735 := eq_true q735)); try go_wp2_with (first | ((with_reducible refine gate_builtin (b := .append) (xs := #[.tmp 63, .tmp 68]) rfl ?_); (try (refine gate_guard (by rfl) ?_; dsimp only)); at_builtin; refine Kd.R_append (Kd.int .i64) (w0 := w) w.heap.size rfl (.tmp 63) (.tmp 68) 28 3 (.int .i64 0) 8 rfl Try.underlying28 info3 rfl (by decide) (by omega) (.slice Ao43 x7_3.length co43) x7_3 (rd t714 x8_3) [.int .i64 (rd t714 x8_3)] (fun k_ => some k_ ≠ (.slice (some ad729) t714.length co42 : Value).ownBlock) (fun _ => False) rfl rfl ?aP (fun _ hk => hk.elim) ?aF ?aO ?aB ?aS ?aL ?_; (case aP => exact rfl); (case aB => exact (ne_ HB.out)); (case aF => exact (fun k_ hk => Kd.fresh' (Kd.R_lt (nr_ HO_5.out)) k_ hk)); (case aO => exact (nr_ HO_7.out)); (case aS => exact (eZ9 (ne_ HB.out))); (case aL => have := LMc39.out; omega); intro v732 w45 ho hb hg hat; rw [← Ny731.out] at ho; have HO733 := Aside0.mk (ho); replace HO_5 := Aside0.mk (Kd.R_after (ok := (fun _ => True)) (by (with_reducible repeat (first | apply Kd.R_alloc | apply Kd.R_drewN | apply Kd.R_drew)); exact Kd.R_mono HO_5.out (fun _ hk => by first | exact ⟨trivial, hk⟩ | trivial | simp_all)) hg hat); replace HO_714001 := Aside0.mk (Kd.R_over' (nr_ HO_714001.out) (Kd.R_typed (nr_ HO_7.out)) (by decide) hg); replace BK713 := Aside0.mk (blk_grown (g := gb713) (o := .cells #[.int .i64 t708, .slice Ao9 t709.length co9] 25 (0, 0)) (nb_ BK713.out) hg (Kd.R_ne HO_7.out BK713.out (by decide))); replace HB := Aside0.mk (hb); clear HO_7; clear ho hb hg hat; obtain ⟨hcz46_0, hcz46_1, hfz46_0, hfz46_1⟩ := cz2_ BK713.out; have p734 : 0 ≤ (x8_3 : Int) := of_decide_eq_true nx_; have q734 : x8_3 < (t714.length : Int) := of_decide_eq_true nx_; obtain ⟨ad734, e734, hx734_0⟩ := Kd.at_int (rR9 HO_5.out).2.2 x8_3 p734 q734; obtain rfl : ad729 = ad734 := (by injection e734); replace p734 := eq_true p734; replace q734 := eq_true q734; have p735 : 0 ≤ ((rd t714 x8_3) : Int) := of_decide_eq_true nx_; have q735 : (rd t714 x8_3) < (t709.length : Int) := of_decide_eq_true nx_; obtain ⟨ad735, e735, hx735_0, hx735_1, hx735_2, hx735_3, hx735_4⟩ := at_T33 (rR9 HO_714001.out).2.2 (rd t714 x8_3) p735 q735; cases e735; replace p735 := eq_true p735; replace q735 := eq_true q735)))
         go_roundg k3
         case measure => have := HJ4.out; have := HK2.out; have := HK3.out; omega
         case rel => exact ⟨(y731), ((rd_T33 t709 (rd t714 x8_3)).f1), ns_, H', ⟨by have := HJ4.out; have := HK2.out; have := HK3.out; omega⟩, ⟨by (with_reducible repeat (first | apply Kd.R_alloc | apply Kd.R_drewN | apply Kd.R_drew)); exact Kd.R_mono HO_5.out (fun _ hk => by first | exact hk.2 | trivial | simp_all)⟩, ⟨nr_ HO733.out⟩, ⟨nr_ HO_714001.out⟩, ⟨nb_ BK713.out⟩, ⟨ne_ HB.out⟩⟩
      case rest =>
       clear HC30
       try clear c1
       try clear c2
       try clear c2b0
       try clear c2b1
       try clear p2
       try clear c3
       try clear c4
       try clear p7
       try clear q7
       try clear hx7
       try clear c9
       try clear c13
       try clear c22
       try clear c29
       try clear c29b0
       try clear c34
       try clear c34b0
       try clear c34b1
       try clear c35
       try clear c35b0
       try clear c36
       try clear c36b0
       try clear c37
       try clear c37b0
       try clear c38
       try clear c38b0
       try clear c39
       try clear c40
       try clear c40b0
       try clear c41
       try clear c41b0
       try clear hcz14_0
       try clear hcz14_1
       try clear hcz18_0
       try clear hcz18_1
       try clear hcz25_0
       try clear hcz25_1
       try clear hcz31_0
       try clear hcz31_1
       try clear hcz44_0
       try clear hcz44_1
       try clear hcz46_0
       try clear hcz46_1
       try clear hcz49_0
       try clear hcz49_1
       try clear hcz8_0
       try clear hcz8_1
       try clear hfz14_0
       try clear hfz14_1
       try clear hfz18_0
       try clear hfz18_1
       try clear hfz25_0
       try clear hfz25_1
       try clear hfz31_0
       try clear hfz31_1
       try clear hfz44_0
       try clear hfz44_1
       try clear hfz46_0
       try clear hfz46_1
       try clear hfz49_0
       try clear hfz49_1
       try clear hfz8_0
       try clear hfz8_1
       try clear hx729_0
       try clear hx730_0
       try clear hx734_0
       try clear hx735_0
       try clear hx735_1
       try clear hx735_2
       try clear hx735_3
       try clear hx735_4
       try clear p2
       try clear p729
       try clear p730
       try clear p734
       try clear p735
       try clear q729
       try clear q730
       try clear q734
       try clear q735
       obtain ⟨kq, x7_29, x8_29, rfl, HA, HJ29, HO_5, HO_7, HO_714001, BK713, HB⟩ := hcut
       cases kq with
       | zero => exact absurd HA.out (by simp [laws_FnNearTree.j3])
       | succ kj29 =>
        have H := HA.out
        clear HA
        simp only [laws_FnNearTree.j3] at H
        replace H := Option.bind_eq_some_iff.mp H
        obtain ⟨⟨t736, t739⟩, A510, H⟩ := H
        replace H : (if (t739 != (x8_29 == t712)) = true then (some false) else (if t739 = true then ((laws_wkInts.f kj29 t736 x7_29).bind fun t740 => (if t740 = true then (laws_FnNearTree.l0 kj29 t712 t714 (wrap64 (x6_2 + 1)) t708 t709) else (some false))) else (laws_FnNearTree.l0 kj29 t712 t714 (wrap64 (x6_2 + 1)) t708 t709))) = some r := H
        have A51 := Aside0.mk A510
        clear A510
        by_cases c52 : (t739 != (x8_29 == t712)) = true
        ·rw [if_pos c52] at H
         have c52b0 : (t739 != (x8_29 == t712)) = true := c52
         (try (have c52b1 : decide (t739 = (x8_29 == t712)) = false := by simpa using c52))
         (try (have c52b2 : (t739 == (x8_29 == t712)) = false := by simpa using c52))
         (try (have c52b3 : ¬ (t739 = (x8_29 == t712)) := by simpa using c52))
         clear c52
         obtain rfl := Option.some.inj H
         obtain ⟨hcz53_0, hcz53_1, hfz53_0, hfz53_1⟩ := cz2_ BK713.out
         go_wp2_with (first | (go_at_call 29; (with_reducible refine (impl_NearWalk.calls kj29 t708 _ _ t709 x6_2 t712 t736 t739 _ ?side1 ?side2 A51.out).mono ?_); (case side1 => exact nc_ (rR9 HO_714001.out).2.2); (case side2 => exact (rR9 HO_714001.out).2.1); rintro e w54 ⟨v737, rfl, ho0, hb⟩; have HO738 := Aside0.mk (Kd.R_lower (Kd.R_new' (Kd.R_new' ho0 (Kd.R_lt (nr_ HO_5.out))) (Kd.R_lt (nr_ HO_7.out))) (eZ9 (ne_ HB.out))); replace HO_5 := Aside0.mk (Kd.R_elder' (nr_ HO_5.out) (Kd.R_base ho0) hb); replace HO_7 := Aside0.mk (Kd.R_elder' (nr_ HO_7.out) (Kd.R_base ho0) hb); replace HO_714001 := kR_ HO_714001 hb; replace BK713 := kb_ BK713 hb; replace HB := kB_ HB hb; (try clear hb); (try clear hb2); (try clear hk); (try clear hi); (try clear ho0)))
         repeat (go_quiet (first | (go_at_call 29; (with_reducible refine (impl_NearWalk.calls kj29 t708 _ _ t709 x6_2 t712 t736 t739 _ ?side1 ?side2 A51.out).mono ?_); (case side1 => exact nc_ (rR9 HO_714001.out).2.2); (case side2 => exact (rR9 HO_714001.out).2.1); rintro e w54 ⟨v737, rfl, ho0, hb⟩; have HO738 := Aside0.mk (Kd.R_lower (Kd.R_new' (Kd.R_new' ho0 (Kd.R_lt (nr_ HO_5.out))) (Kd.R_lt (nr_ HO_7.out))) (eZ9 (ne_ HB.out))); replace HO_5 := Aside0.mk (Kd.R_elder' (nr_ HO_5.out) (Kd.R_base ho0) hb); replace HO_7 := Aside0.mk (Kd.R_elder' (nr_ HO_7.out) (Kd.R_base ho0) hb); replace HO_714001 := kR_ HO_714001 hb; replace BK713 := kb_ BK713 hb; replace HB := kB_ HB hb; (try clear hb); (try clear hb2); (try clear hk); (try clear hi); (try clear ho0))); try go_wp2_with (first | (go_at_call 29; (with_reducible refine (impl_NearWalk.calls kj29 t708 _ _ t709 x6_2 t712 t736 t739 _ ?side1 ?side2 A51.out).mono ?_); (case side1 => exact nc_ (rR9 HO_714001.out).2.2); (case side2 => exact (rR9 HO_714001.out).2.1); rintro e w54 ⟨v737, rfl, ho0, hb⟩; have HO738 := Aside0.mk (Kd.R_lower (Kd.R_new' (Kd.R_new' ho0 (Kd.R_lt (nr_ HO_5.out))) (Kd.R_lt (nr_ HO_7.out))) (eZ9 (ne_ HB.out))); replace HO_5 := Aside0.mk (Kd.R_elder' (nr_ HO_5.out) (Kd.R_base ho0) hb); replace HO_7 := Aside0.mk (Kd.R_elder' (nr_ HO_7.out) (Kd.R_base ho0) hb); replace HO_714001 := kR_ HO_714001 hb; replace BK713 := kb_ BK713 hb; replace HB := kB_ HB hb; (try clear hb); (try clear hb2); (try clear hk); (try clear hi); (try clear ho0))))
         go_ret
         exact ⟨nw_, ne_ HB.out⟩
        rw [if_neg c52] at H
        have c52b0 : (t739 != (x8_29 == t712)) = false := by simpa using c52
        (try (have c52b1 : decide (t739 = (x8_29 == t712)) = true := by simpa using c52))
        (try (have c52b2 : (t739 == (x8_29 == t712)) = true := by simpa using c52))
        clear c52
        by_cases c55 : t739 = true
        rotate_left
        ·replace c55 := Bool.eq_false_iff.mpr c55
         subst c55
         have H1 : (laws_FnNearTree.l0 kj29 t712 t714 (wrap64 (x6_2 + 1)) t708 t709) = some r := by rw [if_neg (show ¬ (false = true) by decide)] at H; exact H
         clear H
         have H := H1
         clear H1
         have H' := Aside0.mk H
         clear H
         obtain ⟨hcz66_0, hcz66_1, hfz66_0, hfz66_1⟩ := cz2_ BK713.out
         go_wp2_with (first | (go_at_call 29; (with_reducible refine (impl_NearWalk.calls kj29 t708 _ _ t709 x6_2 t712 t736 false _ ?side1 ?side2 A51.out).mono ?_); (case side1 => exact nc_ (rR9 HO_714001.out).2.2); (case side2 => exact (rR9 HO_714001.out).2.1); rintro e w67 ⟨v737, rfl, ho0, hb⟩; have HO738 := Aside0.mk (Kd.R_lower (Kd.R_new' (Kd.R_new' ho0 (Kd.R_lt (nr_ HO_5.out))) (Kd.R_lt (nr_ HO_7.out))) (eZ9 (ne_ HB.out))); replace HO_5 := Aside0.mk (Kd.R_elder' (nr_ HO_5.out) (Kd.R_base ho0) hb); replace HO_7 := Aside0.mk (Kd.R_elder' (nr_ HO_7.out) (Kd.R_base ho0) hb); replace HO_714001 := kR_ HO_714001 hb; replace BK713 := kb_ BK713 hb; replace HB := kB_ HB hb; (try clear hb); (try clear hb2); (try clear hk); (try clear hi); (try clear ho0)))
         repeat (go_quiet (first | (go_at_call 29; (with_reducible refine (impl_NearWalk.calls kj29 t708 _ _ t709 x6_2 t712 t736 false _ ?side1 ?side2 A51.out).mono ?_); (case side1 => exact nc_ (rR9 HO_714001.out).2.2); (case side2 => exact (rR9 HO_714001.out).2.1); rintro e w67 ⟨v737, rfl, ho0, hb⟩; have HO738 := Aside0.mk (Kd.R_lower (Kd.R_new' (Kd.R_new' ho0 (Kd.R_lt (nr_ HO_5.out))) (Kd.R_lt (nr_ HO_7.out))) (eZ9 (ne_ HB.out))); replace HO_5 := Aside0.mk (Kd.R_elder' (nr_ HO_5.out) (Kd.R_base ho0) hb); replace HO_7 := Aside0.mk (Kd.R_elder' (nr_ HO_7.out) (Kd.R_base ho0) hb); replace HO_714001 := kR_ HO_714001 hb; replace BK713 := kb_ BK713 hb; replace HB := kB_ HB hb; (try clear hb); (try clear hb2); (try clear hk); (try clear hi); (try clear ho0))); try go_wp2_with (first | (go_at_call 29; (with_reducible refine (impl_NearWalk.calls kj29 t708 _ _ t709 x6_2 t712 t736 false _ ?side1 ?side2 A51.out).mono ?_); (case side1 => exact nc_ (rR9 HO_714001.out).2.2); (case side2 => exact (rR9 HO_714001.out).2.1); rintro e w67 ⟨v737, rfl, ho0, hb⟩; have HO738 := Aside0.mk (Kd.R_lower (Kd.R_new' (Kd.R_new' ho0 (Kd.R_lt (nr_ HO_5.out))) (Kd.R_lt (nr_ HO_7.out))) (eZ9 (ne_ HB.out))); replace HO_5 := Aside0.mk (Kd.R_elder' (nr_ HO_5.out) (Kd.R_base ho0) hb); replace HO_7 := Aside0.mk (Kd.R_elder' (nr_ HO_7.out) (Kd.R_base ho0) hb); replace HO_714001 := kR_ HO_714001 hb; replace BK713 := kb_ BK713 hb; replace HB := kB_ HB hb; (try clear hb); (try clear hb2); (try clear hk); (try clear hi); (try clear ho0))))
         go_roundg kj29
         case measure => have := HJ4.out; have := HK2.out; have := HJ29.out; omega
         case rel => exact ⟨(wrap64 (x6_2 + 1)), ns_, H', ⟨by have := HJ4.out; have := HK2.out; have := HJ29.out; omega⟩, ⟨by (with_reducible repeat (first | apply Kd.R_alloc | apply Kd.R_drewN | apply Kd.R_drew)); exact Kd.R_mono HO_5.out (fun _ hk => trivial)⟩, ⟨nr_ HO_714001.out⟩, ⟨nb_ BK713.out⟩, ⟨ne_ HB.out⟩⟩
        subst c55
        have H1 : ((laws_wkInts.f kj29 t736 x7_29).bind fun t740 => (if t740 = true then (laws_FnNearTree.l0 kj29 t712 t714 (wrap64 (x6_2 + 1)) t708 t709) else (some false))) = some r := by rw [if_pos rfl] at H; exact H
        clear H
        have H := H1
        clear H1
        replace H := Option.bind_eq_some_iff.mp H
        obtain ⟨t740, A560, H⟩ := H
        replace H : (if t740 = true then (laws_FnNearTree.l0 kj29 t712 t714 (wrap64 (x6_2 + 1)) t708 t709) else (some false)) = some r := H
        have A56 := Aside0.mk A560
        clear A560
        by_cases c57 : t740 = true
        rotate_left
        ·replace c57 := Bool.eq_false_iff.mpr c57
         subst c57
         have H1 : (some false) = some r := by rw [if_neg (show ¬ (false = true) by decide)] at H; exact H
         clear H
         have H := H1
         clear H1
         obtain rfl := Option.some.inj H
         obtain ⟨hcz62_0, hcz62_1, hfz62_0, hfz62_1⟩ := cz2_ BK713.out
         go_wp2_with (first | (go_at_call 29; (with_reducible refine (impl_NearWalk.calls kj29 t708 _ _ t709 x6_2 t712 t736 true _ ?side1 ?side2 A51.out).mono ?_); (case side1 => exact nc_ (rR9 HO_714001.out).2.2); (case side2 => exact (rR9 HO_714001.out).2.1); rintro e w63 ⟨v737, rfl, ho0, hb⟩; have HO738 := Aside0.mk (Kd.R_lower (Kd.R_new' (Kd.R_new' ho0 (Kd.R_lt (nr_ HO_5.out))) (Kd.R_lt (nr_ HO_7.out))) (eZ9 (ne_ HB.out))); replace HO_5 := Aside0.mk (Kd.R_elder' (nr_ HO_5.out) (Kd.R_base ho0) hb); replace HO_7 := Aside0.mk (Kd.R_elder' (nr_ HO_7.out) (Kd.R_base ho0) hb); replace HO_714001 := kR_ HO_714001 hb; replace BK713 := kb_ BK713 hb; replace HB := kB_ HB hb; (try clear hb); (try clear hb2); (try clear hk); (try clear hi); (try clear ho0); obtain ⟨Ao64, co64, eo64⟩ := Kd.R_slice HO738.out; subst eo64; obtain ⟨Ao65, co65, eo65⟩ := Kd.R_slice HO_7.out; subst eo65) | (go_at_call 15; (with_reducible refine (laws_wkInts.calls kj29 _ _ t736 _ _ x7_29 false _ ?side1 ?side2 ?side3 ?side4 A56.out).mono ?_); (case side1 => exact nc_ (rR9 HO738.out).2.2); (case side2 => exact (rR9 HO738.out).2.1); (case side3 => exact nc_ (rR9 HO_7.out).2.2); (case side4 => exact (rR9 HO_7.out).2.1); rintro e w' ⟨rfl, ⟨nd, rfl⟩⟩; (try first | exact ⟨rfl, _, World.drewN_drewN _ _ _⟩ | exact ⟨rfl, _, Eq.trans (World.drewN_drewN _ _ _) (congrArg (World.drewN _) (Nat.add_assoc _ _ _))⟩)))
         repeat (go_quiet (first | (go_at_call 29; (with_reducible refine (impl_NearWalk.calls kj29 t708 _ _ t709 x6_2 t712 t736 true _ ?side1 ?side2 A51.out).mono ?_); (case side1 => exact nc_ (rR9 HO_714001.out).2.2); (case side2 => exact (rR9 HO_714001.out).2.1); rintro e w63 ⟨v737, rfl, ho0, hb⟩; have HO738 := Aside0.mk (Kd.R_lower (Kd.R_new' (Kd.R_new' ho0 (Kd.R_lt (nr_ HO_5.out))) (Kd.R_lt (nr_ HO_7.out))) (eZ9 (ne_ HB.out))); replace HO_5 := Aside0.mk (Kd.R_elder' (nr_ HO_5.out) (Kd.R_base ho0) hb); replace HO_7 := Aside0.mk (Kd.R_elder' (nr_ HO_7.out) (Kd.R_base ho0) hb); replace HO_714001 := kR_ HO_714001 hb; replace BK713 := kb_ BK713 hb; replace HB := kB_ HB hb; (try clear hb); (try clear hb2); (try clear hk); (try clear hi); (try clear ho0); obtain ⟨Ao64, co64, eo64⟩ := Kd.R_slice HO738.out; subst eo64; obtain ⟨Ao65, co65, eo65⟩ := Kd.R_slice HO_7.out; subst eo65) | (go_at_call 15; (with_reducible refine (laws_wkInts.calls kj29 _ _ t736 _ _ x7_29 false _ ?side1 ?side2 ?side3 ?side4 A56.out).mono ?_); (case side1 => exact nc_ (rR9 HO738.out).2.2); (case side2 => exact (rR9 HO738.out).2.1); (case side3 => exact nc_ (rR9 HO_7.out).2.2); (case side4 => exact (rR9 HO_7.out).2.1); rintro e w' ⟨rfl, ⟨nd, rfl⟩⟩; (try first | exact ⟨rfl, _, World.drewN_drewN _ _ _⟩ | exact ⟨rfl, _, Eq.trans (World.drewN_drewN _ _ _) (congrArg (World.drewN _) (Nat.add_assoc _ _ _))⟩))); try go_wp2_with (first | (go_at_call 29; (with_reducible refine (impl_NearWalk.calls kj29 t708 _ _ t709 x6_2 t712 t736 true _ ?side1 ?side2 A51.out).mono ?_); (case side1 => exact nc_ (rR9 HO_714001.out).2.2); (case side2 => exact (rR9 HO_714001.out).2.1); rintro e w63 ⟨v737, rfl, ho0, hb⟩; have HO738 := Aside0.mk (Kd.R_lower (Kd.R_new' (Kd.R_new' ho0 (Kd.R_lt (nr_ HO_5.out))) (Kd.R_lt (nr_ HO_7.out))) (eZ9 (ne_ HB.out))); replace HO_5 := Aside0.mk (Kd.R_elder' (nr_ HO_5.out) (Kd.R_base ho0) hb); replace HO_7 := Aside0.mk (Kd.R_elder' (nr_ HO_7.out) (Kd.R_base ho0) hb); replace HO_714001 := kR_ HO_714001 hb; replace BK713 := kb_ BK713 hb; replace HB := kB_ HB hb; (try clear hb); (try clear hb2); (try clear hk); (try clear hi); (try clear ho0); obtain ⟨Ao64, co64, eo64⟩ := Kd.R_slice HO738.out; subst eo64; obtain ⟨Ao65, co65, eo65⟩ := Kd.R_slice HO_7.out; subst eo65) | (go_at_call 15; (with_reducible refine (laws_wkInts.calls kj29 _ _ t736 _ _ x7_29 false _ ?side1 ?side2 ?side3 ?side4 A56.out).mono ?_); (case side1 => exact nc_ (rR9 HO738.out).2.2); (case side2 => exact (rR9 HO738.out).2.1); (case side3 => exact nc_ (rR9 HO_7.out).2.2); (case side4 => exact (rR9 HO_7.out).2.1); rintro e w' ⟨rfl, ⟨nd, rfl⟩⟩; (try first | exact ⟨rfl, _, World.drewN_drewN _ _ _⟩ | exact ⟨rfl, _, Eq.trans (World.drewN_drewN _ _ _) (congrArg (World.drewN _) (Nat.add_assoc _ _ _))⟩))))
         go_ret
         exact ⟨nw_, ne_ HB.out⟩
        subst c57
        have H1 : (laws_FnNearTree.l0 kj29 t712 t714 (wrap64 (x6_2 + 1)) t708 t709) = some r := by rw [if_pos rfl] at H; exact H
        clear H
        have H := H1
        clear H1
        have H' := Aside0.mk H
        clear H
        obtain ⟨hcz58_0, hcz58_1, hfz58_0, hfz58_1⟩ := cz2_ BK713.out
        go_wp2_with (first | (go_at_call 29; (with_reducible refine (impl_NearWalk.calls kj29 t708 _ _ t709 x6_2 t712 t736 true _ ?side1 ?side2 A51.out).mono ?_); (case side1 => exact nc_ (rR9 HO_714001.out).2.2); (case side2 => exact (rR9 HO_714001.out).2.1); rintro e w59 ⟨v737, rfl, ho0, hb⟩; have HO738 := Aside0.mk (Kd.R_lower (Kd.R_new' (Kd.R_new' ho0 (Kd.R_lt (nr_ HO_5.out))) (Kd.R_lt (nr_ HO_7.out))) (eZ9 (ne_ HB.out))); replace HO_5 := Aside0.mk (Kd.R_elder' (nr_ HO_5.out) (Kd.R_base ho0) hb); replace HO_7 := Aside0.mk (Kd.R_elder' (nr_ HO_7.out) (Kd.R_base ho0) hb); replace HO_714001 := kR_ HO_714001 hb; replace BK713 := kb_ BK713 hb; replace HB := kB_ HB hb; (try clear hb); (try clear hb2); (try clear hk); (try clear hi); (try clear ho0); obtain ⟨Ao60, co60, eo60⟩ := Kd.R_slice HO738.out; subst eo60; obtain ⟨Ao61, co61, eo61⟩ := Kd.R_slice HO_7.out; subst eo61) | (go_at_call 15; (with_reducible refine (laws_wkInts.calls kj29 _ _ t736 _ _ x7_29 true _ ?side1 ?side2 ?side3 ?side4 A56.out).mono ?_); (case side1 => exact nc_ (rR9 HO738.out).2.2); (case side2 => exact (rR9 HO738.out).2.1); (case side3 => exact nc_ (rR9 HO_7.out).2.2); (case side4 => exact (rR9 HO_7.out).2.1); rintro e w' ⟨rfl, ⟨nd, rfl⟩⟩; (try first | exact ⟨rfl, _, World.drewN_drewN _ _ _⟩ | exact ⟨rfl, _, Eq.trans (World.drewN_drewN _ _ _) (congrArg (World.drewN _) (Nat.add_assoc _ _ _))⟩)))
        repeat (go_quiet (first | (go_at_call 29; (with_reducible refine (impl_NearWalk.calls kj29 t708 _ _ t709 x6_2 t712 t736 true _ ?side1 ?side2 A51.out).mono ?_); (case side1 => exact nc_ (rR9 HO_714001.out).2.2); (case side2 => exact (rR9 HO_714001.out).2.1); rintro e w59 ⟨v737, rfl, ho0, hb⟩; have HO738 := Aside0.mk (Kd.R_lower (Kd.R_new' (Kd.R_new' ho0 (Kd.R_lt (nr_ HO_5.out))) (Kd.R_lt (nr_ HO_7.out))) (eZ9 (ne_ HB.out))); replace HO_5 := Aside0.mk (Kd.R_elder' (nr_ HO_5.out) (Kd.R_base ho0) hb); replace HO_7 := Aside0.mk (Kd.R_elder' (nr_ HO_7.out) (Kd.R_base ho0) hb); replace HO_714001 := kR_ HO_714001 hb; replace BK713 := kb_ BK713 hb; replace HB := kB_ HB hb; (try clear hb); (try clear hb2); (try clear hk); (try clear hi); (try clear ho0); obtain ⟨Ao60, co60, eo60⟩ := Kd.R_slice HO738.out; subst eo60; obtain ⟨Ao61, co61, eo61⟩ := Kd.R_slice HO_7.out; subst eo61) | (go_at_call 15; (with_reducible refine (laws_wkInts.calls kj29 _ _ t736 _ _ x7_29 true _ ?side1 ?side2 ?side3 ?side4 A56.out).mono ?_); (case side1 => exact nc_ (rR9 HO738.out).2.2); (case side2 => exact (rR9 HO738.out).2.1); (case side3 => exact nc_ (rR9 HO_7.out).2.2); (case side4 => exact (rR9 HO_7.out).2.1); rintro e w' ⟨rfl, ⟨nd, rfl⟩⟩; (try first | exact ⟨rfl, _, World.drewN_drewN _ _ _⟩ | exact ⟨rfl, _, Eq.trans (World.drewN_drewN _ _ _) (congrArg (World.drewN _) (Nat.add_assoc _ _ _))⟩))); try go_wp2_with (first | (go_at_call 29; (with_reducible refine (impl_NearWalk.calls kj29 t708 _ _ t709 x6_2 t712 t736 true _ ?side1 ?side2 A51.out).mono ?_); (case side1 => exact nc_ (rR9 HO_714001.out).2.2); (case side2 => exact (rR9 HO_714001.out).2.1); rintro e w59 ⟨v737, rfl, ho0, hb⟩; have HO738 := Aside0.mk (Kd.R_lower (Kd.R_new' (Kd.R_new' ho0 (Kd.R_lt (nr_ HO_5.out))) (Kd.R_lt (nr_ HO_7.out))) (eZ9 (ne_ HB.out))); replace HO_5 := Aside0.mk (Kd.R_elder' (nr_ HO_5.out) (Kd.R_base ho0) hb); replace HO_7 := Aside0.mk (Kd.R_elder' (nr_ HO_7.out) (Kd.R_base ho0) hb); replace HO_714001 := kR_ HO_714001 hb; replace BK713 := kb_ BK713 hb; replace HB := kB_ HB hb; (try clear hb); (try clear hb2); (try clear hk); (try clear hi); (try clear ho0); obtain ⟨Ao60, co60, eo60⟩ := Kd.R_slice HO738.out; subst eo60; obtain ⟨Ao61, co61, eo61⟩ := Kd.R_slice HO_7.out; subst eo61) | (go_at_call 15; (with_reducible refine (laws_wkInts.calls kj29 _ _ t736 _ _ x7_29 true _ ?side1 ?side2 ?side3 ?side4 A56.out).mono ?_); (case side1 => exact nc_ (rR9 HO738.out).2.2); (case side2 => exact (rR9 HO738.out).2.1); (case side3 => exact nc_ (rR9 HO_7.out).2.2); (case side4 => exact (rR9 HO_7.out).2.1); rintro e w' ⟨rfl, ⟨nd, rfl⟩⟩; (try first | exact ⟨rfl, _, World.drewN_drewN _ _ _⟩ | exact ⟨rfl, _, Eq.trans (World.drewN_drewN _ _ _) (congrArg (World.drewN _) (Nat.add_assoc _ _ _))⟩))))
        go_roundg kj29
        case measure => have := HJ4.out; have := HK2.out; have := HJ29.out; omega
        case rel => exact ⟨(wrap64 (x6_2 + 1)), ns_, H', ⟨by have := HJ4.out; have := HK2.out; have := HJ29.out; omega⟩, ⟨by (with_reducible repeat (first | apply Kd.R_alloc | apply Kd.R_drewN | apply Kd.R_drew)); exact Kd.R_mono HO_5.out (fun _ hk => trivial)⟩, ⟨nr_ HO_714001.out⟩, ⟨nb_ BK713.out⟩, ⟨ne_ HB.out⟩⟩
/-- THE ONE PURE STATEMENT of laws_FnNearTree: yours. -/
def laws_FnNearTree.Pure : Prop := ∀ (l0 : List Int), l0.length ≤ maxLen → l0.length * 1 ≤ 140737488351232 → (∀ x ∈ l0, (Lit.int .u8 x).wf = true) → ∃ k, laws_FnNearTree.f k l0 = some true
theorem laws_FnNearTree.walk (P : laws_FnNearTree.Pure) (a0 : Option Addr) (len0 cap0 : Nat) (z0 : List Int) (w : World) (w0 : (a0 = none ∧ len0 = 0 ∧ cap0 = 0 ∧ z0 = []) ∨ ∃ x, a0 = some x ∧ len0 ≤ cap0 ∧ cap0 ≤ maxLen ∧ z0.length = cap0 ∧ (∀ i, i < z0.length → w.cell? (x.add i) = some (.int .u8 (z0.getD i 0))) ∧ ∀ n ∈ z0, (Lit.int .u8 n).wf = true) (y0 : len0 * 1 ≤ 140737488351232) :
    Calls Try.prog 9 #[.slice a0 len0 cap0] w fun e w' => e = .returned (.bool true) ∧ Below w.heap.size w w' := by
  obtain ⟨l0, rfl, hr0, hm0, hw0, hc0⟩ := ReadsInt.ofRowC w0
  obtain ⟨k, h⟩ := P l0 hm0 y0 hw0
  refine (laws_FnNearTree.calls k _ _ l0 true w (Kd.C_of_reads (d := (0 : Int)) (h1 := fun _ => rfl) hr0) hc0 h).mono ?_
  rintro e w' ⟨rfl, hd⟩
  exact ⟨rfl, hd⟩

end Go.Proofs.Ytbmoonciggfbpaa.Print
