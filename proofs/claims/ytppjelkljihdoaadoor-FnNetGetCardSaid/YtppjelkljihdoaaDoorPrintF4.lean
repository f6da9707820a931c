-- Made by this session's own program (wip/patch_print.py, over the kit's print). Lean checks it.
import Derived.Test.YtppjelkljihdoaaDoorPrint0
import Derived.Test.YtppjelkljihdoaaDoorPrintF10
import Derived.Test.YtppjelkljihdoaaDoorPrintF12
import Derived.Test.YtppjelkljihdoaaDoorPrintF13
import Derived.Test.YtppjelkljihdoaaDoorPrintF14
import Derived.Test.YtppjelkljihdoaaDoorPrintF15
import Derived.Test.YtppjelkljihdoaaDoorPrintF8
namespace Go.Proofs.YtppjelkljihdoaaDoor.Print
open Go.RowKit Go.Proofs.YtppjelkljihdoaaDoorW.PrintWords Go.Proofs.YtppjelkljihdoaaDoorW.PrintLast Go.Proofs.YtppjelkljihdoaaDoorW.PrintMore Go.Proofs.YtppjelkljihdoaaDoorX
attribute [local go_sem] max2_int min2_int max_two min_two max_three min_three max_four min_four   -- for this text's walks alone
set_option linter.unusedVariables false
set_option linter.unusedSimpArgs false

/-! ### laws_FnNetGet: function 4 -/
def laws_FnNetGet.j0 : Nat → ByteArray → Bool → Bool → Bool → Int → List (S54) → Int → List (S54) → Option (Bool)
  | 0, _, _, _, _, _, _, _, _ => none
  | k + 1, x3, x5, x7, x35, x360000, x360001, x366000, x366001 => if x35 = true then (if (x5 == x7) = true then ((laws_wkNet.f k x360000 x360001 x366000 x366001).bind fun t367 => (some t367)) else (some false)) else ((impl_NetPut.f x360000 x360001).bind fun t368 => (if t368.toList = x3.toList then ((impl_NetOk.f x360000 x360001).bind fun t369 => (some t369)) else (some false)))
def laws_FnNetGet.f (k : Nat) (l0 : List Int) : Option (Bool) := if (l0.length : Int) > 1048576 then (some true) else ((spec_DrawNetGet.f k l0).bind fun t353 => ((impl_NetGet.f k t353).bind fun bt354 => ((spec_NetGet.f k t353).bind fun bt360 => (if (bt354.2.2 != bt360.2.2) = true then (laws_FnNetGet.j0 k t353 bt354.2.2 bt360.2.2 true bt354.1 bt354.2.1 bt360.1 bt360.2.1) else ((laws_wkNet.f k bt354.1 bt354.2.1 bt360.1 bt360.2.1).bind fun t366 => (if t366 = true then (laws_FnNetGet.j0 k t353 bt354.2.2 bt360.2.2 (!bt354.2.2) bt354.1 bt354.2.1 bt360.1 bt360.2.1) else (laws_FnNetGet.j0 k t353 bt354.2.2 bt360.2.2 true bt354.1 bt354.2.1 bt360.1 bt360.2.1)))))))
theorem laws_FnNetGet.mono_l : ∀ k, (∀ y0 y1 y2 y3 y4 y5 y6 y7, LeO (laws_FnNetGet.j0 k y0 y1 y2 y3 y4 y5 y6 y7) (laws_FnNetGet.j0 (k + 1) y0 y1 y2 y3 y4 y5 y6 y7))
  | 0 => fun _ _ _ _ _ _ _ _ r h => by simp [laws_FnNetGet.j0] at h
  | k + 1 => by
    have ih0 := laws_FnNetGet.mono_l k
    · intro y0 y1 y2 y3 y4 y5 y6 y7
      unfold laws_FnNetGet.j0
      repeat' first | (with_reducible first | exact ih0 _ _ _ _ _ _ _ _ | exact impl_NetGet.mono _ _ | exact laws_wkNet.mono _ _ _ _ _ | exact spec_DrawNetGet.mono _ _ | exact spec_NetGet.mono _ _ | exact LeO.refl _ | exact LeO.none _ | refine LeO.ite ?_ ?_ | refine LeO.bind ?_ (fun _ => ?_)) | exact ih0 _ _ _ _ _ _ _ _ | exact impl_NetGet.mono _ _ | exact laws_wkNet.mono _ _ _ _ _ | exact spec_DrawNetGet.mono _ _ | exact spec_NetGet.mono _ _ | exact LeO.none _ | refine LeO.ite ?_ ?_ | refine LeO.bind ?_ (fun _ => ?_)
theorem laws_FnNetGet.mono : ∀ a0 k, LeO (laws_FnNetGet.f k a0) (laws_FnNetGet.f (k + 1) a0) := by
  intro a0 k
  have ih0 := laws_FnNetGet.mono_l k
  unfold laws_FnNetGet.f
  repeat' first | (with_reducible first | exact ih0 _ _ _ _ _ _ _ _ | exact impl_NetGet.mono _ _ | exact laws_wkNet.mono _ _ _ _ _ | exact spec_DrawNetGet.mono _ _ | exact spec_NetGet.mono _ _ | exact LeO.refl _ | exact LeO.none _ | refine LeO.ite ?_ ?_ | refine LeO.bind ?_ (fun _ => ?_)) | exact ih0 _ _ _ _ _ _ _ _ | exact impl_NetGet.mono _ _ | exact laws_wkNet.mono _ _ _ _ _ | exact spec_DrawNetGet.mono _ _ | exact spec_NetGet.mono _ _ | exact LeO.none _ | refine LeO.ite ?_ ?_ | refine LeO.bind ?_ (fun _ => ?_)
set_option maxHeartbeats 200000000 in
set_option maxRecDepth 100000 in
theorem laws_FnNetGet.calls (k : Nat) (A0 : Option Addr) (c0 : Nat) (l0 : List Int) (r : Bool) (w : World) (hr0 : Kd.C (Kd.int .u8) w A0 l0.length l0) (hc0 : l0.length ≤ c0) (h : laws_FnNetGet.f k l0 = some r) (hV : Aside0 (VarsOk w) := by first | with_reducible assumption | exact vof_ (by assumption) (ne_ (Aside0.out (by assumption)))) :
    Calls Tryd.prog 4 #[.slice A0 l0.length c0] w fun e w' => e = .returned (.bool r) ∧ Below w.heap.size w w' := by
  have hu25 := Tryd.underlying25
  have HR0 := Aside0.mk hr0
  have HC0 := Aside0.mk hc0
  clear hr0 hc0
  have HB := Aside0.mk (Below.refl w.heap.size w)
  have H : (if (l0.length : Int) > 1048576 then (some true) else ((spec_DrawNetGet.f k l0).bind fun t353 => ((impl_NetGet.f k t353).bind fun bt354 => ((spec_NetGet.f k t353).bind fun bt360 => (if (bt354.2.2 != bt360.2.2) = true then (laws_FnNetGet.j0 k t353 bt354.2.2 bt360.2.2 true bt354.1 bt354.2.1 bt360.1 bt360.2.1) else ((laws_wkNet.f k bt354.1 bt354.2.1 bt360.1 bt360.2.1).bind fun t366 => (if t366 = true then (laws_FnNetGet.j0 k t353 bt354.2.2 bt360.2.2 (!bt354.2.2) bt354.1 bt354.2.1 bt360.1 bt360.2.1) else (laws_FnNetGet.j0 k t353 bt354.2.2 bt360.2.2 true bt354.1 bt354.2.1 bt360.1 bt360.2.1)))))))) = some r := h
  clear h
  by_cases c2 : (l0.length : Int) > 1048576
  ·rw [if_pos c2] at H
   have c2b0 : decide (1048576 < (l0.length : Int)) = true := decide_eq_true c2
   have c2b1 : decide (1048576 < l0.length) = true := decide_eq_true (by omega)
   clear c2
   obtain rfl := Option.some.inj H
   go_enter Tryd.func4, Tryd.ntmps4
   go_wp2
   go_ret
   exact ⟨nw_, ne_ HB.out⟩
  rw [if_neg c2] at H
  have c2b0 : decide (1048576 < (l0.length : Int)) = false := decide_eq_false c2
  have c2b1 : decide (1048576 < l0.length) = false := decide_eq_false (by omega)
  clear c2
  replace H := Option.bind_eq_some_iff.mp H
  obtain ⟨t353, A30, H⟩ := H
  try dsimp only at H
  have A3 := Aside0.mk A30
  clear A30
  replace H := Option.bind_eq_some_iff.mp H
  obtain ⟨⟨t354, t355, t358⟩, A40, H⟩ := H
  try dsimp only at H
  have A4 := Aside0.mk A40
  clear A40
  replace H := Option.bind_eq_some_iff.mp H
  obtain ⟨⟨t360, t361, t364⟩, A50, H⟩ := H
  try dsimp only at H
  have A5 := Aside0.mk A50
  clear A50
  have HC6 := Aside0.mk H
  clear H
  go_enter Tryd.func4, Tryd.ntmps4
  go_upto_region 6 with (first | ((with_reducible refine gate_callee (f := 14) rfl ?_); refine gl_ (some 12) Tryd.func14 #[.slice A0 l0.length c0] ?_; (with_reducible refine (spec_DrawNetGet.calls k _ _ l0 t353 _ ?side1 ?side2 A3.out).mono ?_); (case side1 => repeat (first | exact HR0.out | (with_reducible refine Kd.C_alloc ?_ _) | (with_reducible refine Kd.C_drewN ?_ _) | (with_reducible refine Kd.C_drew ?_))); (case side2 => exact HC0.out); rintro e w7 ⟨rfl, hb⟩; refine ⟨_, rfl, ?_⟩; replace HB := kB_ HB hb; (try clear hb); (try clear hb2); (try clear hk); (try clear hi)) | ((with_reducible refine gate_callee (f := 12) rfl ?_); refine gl_ (some 15) Tryd.func12 #[.string t353] ?_; (with_reducible refine (impl_NetGet.calls k t353 t354 t355 t358 _ A4.out).mono ?_); rintro e w8 ⟨v356, rfl, ho0, hb⟩; refine ⟨_, rfl, ?_⟩; have HO357 := Aside0.mk (Kd.R_lower ho0 (below_size (ne_ HB.out))); replace HB := kB_ HB hb; (try clear hb); (try clear hb2); (try clear hk); (try clear hi); (try clear ho0)) | ((with_reducible refine gate_dst (N := 4) rfl ?_); refine bx_ 4 #[.int .i64 0, .slice none 0 0] 25 ?_; intro gb359 hg w9 hbox hb; have BK359 := Aside0.mk (hbox); have GW359 := Aside0.mk (zs_ hg (ne_ HB.out)); have GE359 := Aside0.mk (zs_ hg (ne_ HB.out)); replace HO357 := kR_ HO357 hb; replace HB := kB_ HB hb; clear hb hbox hg; obtain ⟨hcz10_0, hcz10_1, hfz10_0, hfz10_1⟩ := cz2_ BK359.out; obtain ⟨Ao11, co11, eo11⟩ := Kd.R_slice HO357.out; subst eo11) | ((with_reducible refine gate_callee (f := 15) rfl ?_); refine gl_ (some 20) Tryd.func15 #[.string t353] ?_; (with_reducible refine (spec_NetGet.calls k t353 t360 t361 t364 _ A5.out).mono ?_); rintro e w12 ⟨v362, rfl, ho0, hb⟩; refine ⟨_, rfl, ?_⟩; have HO363 := Aside0.mk (Kd.R_lower (Kd.R_new' ho0 (Kd.R_lt (by (with_reducible repeat (first | apply Kd.R_alloc | apply Kd.R_drewN | apply Kd.R_drew)); exact (Kd.R_mono (rf2_ (Kd.R_types HO357.out BK359.out (by decide))) (fun _ h_ => h_.1))))) (below_size (ne_ HB.out))); replace HO357 := Aside0.mk (Kd.R_elder' (by (with_reducible repeat (first | apply Kd.R_alloc | apply Kd.R_drewN | apply Kd.R_drew)); exact (Kd.R_mono (rf2_ (Kd.R_types HO357.out BK359.out (by decide))) (fun _ h_ => h_.1))) (Kd.R_base ho0) hb); replace BK359 := Aside0.mk (blk_below (g := gb359) (o := .cells #[.int .i64 t354, .slice Ao11 t355.length co11] 25 (0, 0)) (np_ BK359.out) hb); replace HB := kB_ HB hb; (try clear hb); (try clear hb2); (try clear hk); (try clear hi); (try clear ho0)) | ((with_reducible refine gate_dst (N := 6) rfl ?_); refine bx_ 6 #[.int .i64 0, .slice none 0 0] 25 ?_; intro gb365 hg w13 hbox hb; have BK365 := Aside0.mk (hbox); have GW365 := Aside0.mk (zs_ hg (ne_ HB.out)); have GE365 := Aside0.mk (zs_ hg (ne_ HB.out)); have NB359_365 := Aside0.mk (nl_ BK359.out hg); have NB365_359 := Aside0.mk (nm_ BK359.out hg); replace HO357 := kR_ HO357 hb; replace HO363 := kR_ HO363 hb; replace BK359 := kb_ BK359 hb; replace HB := kB_ HB hb; clear hb hbox hg; have hnb14 := NB365_359.out; have hnc14 := NB359_365.out; obtain ⟨hcz15_0, hcz15_1, hfz15_0, hfz15_1⟩ := cz2_ BK365.out; obtain ⟨Ao16, co16, eo16⟩ := Kd.R_slice HO363.out; subst eo16))
  (try simp only [Act.put, List.setIfInBounds_toArray, List.set_cons_zero, List.set_cons_succ])
  go_cut [35] (fun v35 wc => ∃ (kq : Nat) (x35_5 : Bool), v35 = .bool x35_5 ∧ Aside0 (laws_FnNetGet.j0 kq t353 t358 t364 x35_5 t354 t355 t360 t361 = some r) ∧ Aside0 (kq ≤ k) ∧ Aside0 (Kd.R k54 54 wc w.heap.size (fun k_ => some k_ ≠ ((.slice Ao16 t361.length co16) : Value).ownBlock) (.slice Ao11 t355.length co11) t355) ∧ Aside0 (Kd.R k54 54 wc w.heap.size (fun k_ => some k_ ≠ ((.slice Ao11 t355.length co11) : Value).ownBlock) (.slice Ao16 t361.length co16) t361) ∧ Aside0 (wc.heap[gb359]? = some (.cells #[.int .i64 t354, (.slice Ao11 t355.length co11)] 25 (0, 0))) ∧ Aside0 (wc.heap[gb365]? = some (.cells #[.int .i64 t360, (.slice Ao16 t361.length co16)] 25 (0, 0))) ∧ Aside0 (Below w.heap.size w wc))
  case first =>
   have H := HC6.out
   clear HC6
   by_cases c17 : (t358 != t364) = true
   ·rw [if_pos c17] at H
    have c17b0 : (t358 != t364) = true := c17
    (try (have c17b1 : decide (t358 = t364) = false := by simpa using c17))
    (try (have c17b2 : (t358 == t364) = false := by simpa using c17))
    (try (have c17b3 : ¬ (t358 = t364) := by simpa using c17))
    clear c17
    (first | rw [c17b0] | (simp only [i64_w, i32_w]; rw [c17b0]) | skip)
    have H' := Aside0.mk H
    clear H
    go_wp2
    go_meet
    case rel => exact ⟨_, (true), ns_, H', ⟨by first | omega | exact Nat.le_refl _⟩, ⟨by (with_reducible repeat (first | apply Kd.R_alloc | apply Kd.R_drewN | apply Kd.R_drew)); exact Kd.R_mono (rf2_ (Kd.R_types HO357.out BK365.out (by decide))) (fun _ hk => by first | exact hk.1.2 | trivial | simp_all)⟩, ⟨by (with_reducible repeat (first | apply Kd.R_alloc | apply Kd.R_drewN | apply Kd.R_drew)); exact Kd.R_mono (rf2_ (Kd.R_types HO363.out BK365.out (by decide))) (fun _ hk => by first | exact hk.1.2 | trivial | simp_all)⟩, ⟨np_ BK359.out⟩, ⟨np_ BK365.out⟩, ⟨ne_ HB.out⟩⟩
   rw [if_neg c17] at H
   have c17b0 : (t358 != t364) = false := by simpa using c17
   (try (have c17b1 : decide (t358 = t364) = true := by simpa using c17))
   (try (have c17b2 : (t358 == t364) = true := by simpa using c17))
   clear c17
   (first | rw [c17b0] | (simp only [i64_w, i32_w]; rw [c17b0]) | skip)
   replace H := Option.bind_eq_some_iff.mp H
   obtain ⟨t366, A180, H⟩ := H
   try dsimp only at H
   have A18 := Aside0.mk A180
   clear A180
   by_cases c19 : t366 = true
   ·subst c19
    have H1 : (laws_FnNetGet.j0 k t353 t358 t364 (!t358) t354 t355 t360 t361) = some r := by rw [if_pos rfl] at H; exact H
    clear H
    have H := H1
    clear H1
    have H' := Aside0.mk H
    clear H
    have hnb20 := NB359_365.out
    have hnc20 := NB365_359.out
    obtain ⟨hcz21_0, hcz21_1, hfz21_0, hfz21_1⟩ := cz2_ BK359.out
    obtain ⟨hcz22_0, hcz22_1, hfz22_0, hfz22_1⟩ := cz2_ BK365.out
    go_wp2_with (first | (go_at_call 13; (with_reducible refine (laws_wkNet.calls k t354 _ _ t355 t360 _ _ t361 true _ ?side1 ?side2 ?side3 ?side4 A18.out).mono ?_); (case side1 => refine (Kd.R_reads' (e := 54) (base := w.heap.size) (ok := fun k_ => (True ∧ some k_ ≠ (.slice Ao16 t361.length co16 : Value).ownBlock)) (n := t355.length) (c := co11) ?_).2.2; exact (by (with_reducible repeat (first | apply Kd.R_alloc | apply Kd.R_drewN | apply Kd.R_drew)); exact (Kd.R_mono (rf2_ (Kd.R_types HO357.out BK365.out (by decide))) (fun _ h_ => h_.1)))); (case side2 => exact (Kd.R_reads' HO357.out).2.1); (case side3 => refine (Kd.R_reads' (e := 54) (base := w.heap.size) (ok := fun k_ => (True ∧ some k_ ≠ (.slice Ao11 t355.length co11 : Value).ownBlock)) (n := t361.length) (c := co16) ?_).2.2; exact (by (with_reducible repeat (first | apply Kd.R_alloc | apply Kd.R_drewN | apply Kd.R_drew)); exact (Kd.R_mono (rf2_ (Kd.R_types HO363.out BK365.out (by decide))) (fun _ h_ => h_.1)))); (case side4 => exact (Kd.R_reads' HO363.out).2.1); rintro e w23 ⟨rfl, hb⟩; replace HO357 := Aside0.mk (Kd.R_below (by (with_reducible repeat (first | apply Kd.R_alloc | apply Kd.R_drewN | apply Kd.R_drew)); exact (Kd.R_mono (rf2_ (Kd.R_types HO357.out BK365.out (by decide))) (fun _ h_ => h_.1))) hb); replace HO363 := Aside0.mk (Kd.R_below (by (with_reducible repeat (first | apply Kd.R_alloc | apply Kd.R_drewN | apply Kd.R_drew)); exact (Kd.R_mono (rf2_ (Kd.R_types HO363.out BK365.out (by decide))) (fun _ h_ => h_.1))) hb); replace BK359 := kf_ BK359 hb; replace BK365 := Aside0.mk (blk_below (g := gb365) (o := .cells #[.int .i64 t360, .slice Ao16 t361.length co16] 25 (0, 0)) (np_ BK365.out) hb); replace HB := kB_ HB hb; (try clear hb); (try clear hb2); (try clear hk); (try clear hi)))
    go_meet
    case rel => exact ⟨_, (!t358), ns_, H', ⟨by first | omega | exact Nat.le_refl _⟩, ⟨by (with_reducible repeat (first | apply Kd.R_alloc | apply Kd.R_drewN | apply Kd.R_drew)); exact Kd.R_mono HO357.out (fun _ hk => by first | exact hk.2 | trivial | simp_all)⟩, ⟨by (with_reducible repeat (first | apply Kd.R_alloc | apply Kd.R_drewN | apply Kd.R_drew)); exact Kd.R_mono HO363.out (fun _ hk => by first | exact hk.2 | trivial | simp_all)⟩, ⟨nb_ BK359.out⟩, ⟨nb_ BK365.out⟩, ⟨ne_ HB.out⟩⟩
   replace c19 := Bool.eq_false_iff.mpr c19
   subst c19
   have H1 : (laws_FnNetGet.j0 k t353 t358 t364 true t354 t355 t360 t361) = some r := by rw [if_neg (show ¬ (false = true) by decide)] at H; exact H
   clear H
   have H := H1
   clear H1
   have H' := Aside0.mk H
   clear H
   have hnb24 := NB359_365.out
   have hnc24 := NB365_359.out
   obtain ⟨hcz25_0, hcz25_1, hfz25_0, hfz25_1⟩ := cz2_ BK359.out
   obtain ⟨hcz26_0, hcz26_1, hfz26_0, hfz26_1⟩ := cz2_ BK365.out
   go_wp2_with (first | (go_at_call 13; (with_reducible refine (laws_wkNet.calls k t354 _ _ t355 t360 _ _ t361 false _ ?side1 ?side2 ?side3 ?side4 A18.out).mono ?_); (case side1 => refine (Kd.R_reads' (e := 54) (base := w.heap.size) (ok := fun k_ => (True ∧ some k_ ≠ (.slice Ao16 t361.length co16 : Value).ownBlock)) (n := t355.length) (c := co11) ?_).2.2; exact (by (with_reducible repeat (first | apply Kd.R_alloc | apply Kd.R_drewN | apply Kd.R_drew)); exact (Kd.R_mono (rf2_ (Kd.R_types HO357.out BK365.out (by decide))) (fun _ h_ => h_.1)))); (case side2 => exact (Kd.R_reads' HO357.out).2.1); (case side3 => refine (Kd.R_reads' (e := 54) (base := w.heap.size) (ok := fun k_ => (True ∧ some k_ ≠ (.slice Ao11 t355.length co11 : Value).ownBlock)) (n := t361.length) (c := co16) ?_).2.2; exact (by (with_reducible repeat (first | apply Kd.R_alloc | apply Kd.R_drewN | apply Kd.R_drew)); exact (Kd.R_mono (rf2_ (Kd.R_types HO363.out BK365.out (by decide))) (fun _ h_ => h_.1)))); (case side4 => exact (Kd.R_reads' HO363.out).2.1); rintro e w27 ⟨rfl, hb⟩; replace HO357 := Aside0.mk (Kd.R_below (by (with_reducible repeat (first | apply Kd.R_alloc | apply Kd.R_drewN | apply Kd.R_drew)); exact (Kd.R_mono (rf2_ (Kd.R_types HO357.out BK365.out (by decide))) (fun _ h_ => h_.1))) hb); replace HO363 := Aside0.mk (Kd.R_below (by (with_reducible repeat (first | apply Kd.R_alloc | apply Kd.R_drewN | apply Kd.R_drew)); exact (Kd.R_mono (rf2_ (Kd.R_types HO363.out BK365.out (by decide))) (fun _ h_ => h_.1))) hb); replace BK359 := kf_ BK359 hb; replace BK365 := Aside0.mk (blk_below (g := gb365) (o := .cells #[.int .i64 t360, .slice Ao16 t361.length co16] 25 (0, 0)) (np_ BK365.out) hb); replace HB := kB_ HB hb; (try clear hb); (try clear hb2); (try clear hk); (try clear hi)))
   go_meet
   case rel => exact ⟨_, (true), ns_, H', ⟨by first | omega | exact Nat.le_refl _⟩, ⟨by (with_reducible repeat (first | apply Kd.R_alloc | apply Kd.R_drewN | apply Kd.R_drew)); exact Kd.R_mono HO357.out (fun _ hk => by first | exact hk.2 | trivial | simp_all)⟩, ⟨by (with_reducible repeat (first | apply Kd.R_alloc | apply Kd.R_drewN | apply Kd.R_drew)); exact Kd.R_mono HO363.out (fun _ hk => by first | exact hk.2 | trivial | simp_all)⟩, ⟨nb_ BK359.out⟩, ⟨nb_ BK365.out⟩, ⟨ne_ HB.out⟩⟩
  case rest =>
   clear HC6
   try clear c2
   try clear c2b0
   try clear c2b1
   try clear hcz10_0
   try clear hcz10_1
   try clear hcz15_0
   try clear hcz15_1
   try clear hfz10_0
   try clear hfz10_1
   try clear hfz15_0
   try clear hfz15_1
   obtain ⟨kq, x35_5, rfl, HA, HJ5, HO_360001, HO_366001, BK359, BK365, HB⟩ := hcut
   cases kq with
   | zero => exact absurd HA.out (by simp [laws_FnNetGet.j0])
   | succ kj5 =>
    have H := HA.out
    clear HA
    simp only [laws_FnNetGet.j0] at H
    by_cases c28 : x35_5 = true
    ·subst c28
     rw [if_pos rfl] at H
     by_cases c29 : (t358 == t364) = true
     rotate_left
     ·rw [if_neg c29] at H
      have c29b0 : (t358 == t364) = false := by simpa using c29
      (try (have c29b1 : decide (t358 = t364) = false := by simpa using c29))
      (try (have c29b2 : (t358 == t364) = false := by simpa using c29))
      (try (have c29b3 : ¬ (t358 = t364) := by simpa using c29))
      clear c29
      obtain rfl := Option.some.inj H
      go_wp2
      go_ret
      exact ⟨nw_, ne_ HB.out⟩
     rw [if_pos c29] at H
     have c29b0 : (t358 == t364) = true := c29
     (try (have c29b1 : decide (t358 = t364) = true := by simpa using c29))
     (try (have c29b2 : (t358 == t364) = true := by simpa using c29))
     clear c29
     replace H := Option.bind_eq_some_iff.mp H
     obtain ⟨t367, A300, H⟩ := H
     replace H : (some t367) = some r := H
     have A30 := Aside0.mk A300
     clear A300
     obtain rfl := Option.some.inj H
     have hnb31 := NB359_365.out
     have hnc31 := NB365_359.out
     obtain ⟨hcz32_0, hcz32_1, hfz32_0, hfz32_1⟩ := cz2_ BK359.out
     obtain ⟨hcz33_0, hcz33_1, hfz33_0, hfz33_1⟩ := cz2_ BK365.out
     go_wp2_with (first | (go_at_call 13; (with_reducible refine (laws_wkNet.calls kj5 t354 _ _ t355 t360 _ _ t361 t367 _ ?side1 ?side2 ?side3 ?side4 A30.out).mono ?_); (case side1 => exact nc_ (Kd.R_reads' HO_360001.out).2.2); (case side2 => exact (Kd.R_reads' HO_360001.out).2.1); (case side3 => exact nc_ (Kd.R_reads' HO_366001.out).2.2); (case side4 => exact (Kd.R_reads' HO_366001.out).2.1); rintro e w34 ⟨rfl, hb⟩; replace HO_360001 := kR_ HO_360001 hb; replace HO_366001 := kR_ HO_366001 hb; replace BK359 := kb_ BK359 hb; replace BK365 := kb_ BK365 hb; replace HB := kB_ HB hb; (try clear hb); (try clear hb2); (try clear hk); (try clear hi)))
     go_ret
     exact ⟨nw_, ne_ HB.out⟩
    replace c28 := Bool.eq_false_iff.mpr c28
    subst c28
    have H1 : ((impl_NetPut.f t354 t355).bind fun t368 => (if t368.toList = t353.toList then ((impl_NetOk.f t354 t355).bind fun t369 => (some t369)) else (some false))) = some r := by rw [if_neg (show ¬ (false = true) by decide)] at H; exact H
    clear H
    have H := H1
    clear H1
    replace H := Option.bind_eq_some_iff.mp H
    obtain ⟨t368, A350, H⟩ := H
    replace H : (if t368.toList = t353.toList then ((impl_NetOk.f t354 t355).bind fun t369 => (some t369)) else (some false)) = some r := H
    have A35 := Aside0.mk A350
    clear A350
    by_cases c36 : t368.toList = t353.toList
    rotate_left
    ·rw [if_neg c36] at H
     have c36b0 : (t368.toList == t353.toList) = false := beq_eq_false_iff_ne.mpr c36
     have c36b1 : (t368.toList != t353.toList) = true := bne_iff_ne.mpr c36
     obtain rfl := Option.some.inj H
     have hnb43 := NB359_365.out
     have hnc43 := NB365_359.out
     obtain ⟨hcz44_0, hcz44_1, hfz44_0, hfz44_1⟩ := cz2_ BK359.out
     go_wp2_with (first | ((with_reducible refine gate_callee (f := 8) rfl ?_); refine gl_ (some 45) Tryd.func8 #[.agg #[.int .i64 t354, .slice Ao11 t355.length co11]] ?_; (with_reducible refine (impl_NetPut.calls t354 _ _ t355 t368 _ ?side1 ?side2 A35.out).mono ?_); (case side1 => exact nc_ (Kd.R_reads' HO_360001.out).2.2); (case side2 => exact (Kd.R_reads' HO_360001.out).2.1); rintro e w45 ⟨rfl, hb⟩; refine ⟨_, rfl, ?_⟩; replace HO_360001 := kR_ HO_360001 hb; replace HO_366001 := kR_ HO_366001 hb; replace BK359 := kb_ BK359 hb; replace BK365 := kb_ BK365 hb; replace HB := kB_ HB hb; (try clear hb); (try clear hb2); (try clear hk); (try clear hi)))
     go_ret
     exact ⟨nw_, ne_ HB.out⟩

    rw [if_pos c36] at H
    have c36b0 : (t368.toList == t353.toList) = true := beq_iff_eq.mpr c36
    have c36b1 : (t368.toList != t353.toList) = false := bne_eq_false_iff_eq.mpr c36
    clear c36
    replace H := Option.bind_eq_some_iff.mp H
    obtain ⟨t369, A370, H⟩ := H
    replace H : (some t369) = some r := H
    have A37 := Aside0.mk A370
    clear A370
    obtain rfl := Option.some.inj H
    have hnb38 := NB359_365.out
    have hnc38 := NB365_359.out
    obtain ⟨hcz39_0, hcz39_1, hfz39_0, hfz39_1⟩ := cz2_ BK359.out
    go_wp2_with (first | ((with_reducible refine gate_callee (f := 8) rfl ?_); refine gl_ (some 45) Tryd.func8 #[.agg #[.int .i64 t354, .slice Ao11 t355.length co11]] ?_; (with_reducible refine (impl_NetPut.calls t354 _ _ t355 t368 _ ?side1 ?side2 A35.out).mono ?_); (case side1 => exact nc_ (Kd.R_reads' HO_360001.out).2.2); (case side2 => exact (Kd.R_reads' HO_360001.out).2.1); rintro e w40 ⟨rfl, hb⟩; refine ⟨_, rfl, ?_⟩; replace HO_360001 := kR_ HO_360001 hb; replace HO_366001 := kR_ HO_366001 hb; replace BK359 := kb_ BK359 hb; replace BK365 := kb_ BK365 hb; replace HB := kB_ HB hb; (try clear hb); (try clear hb2); (try clear hk); (try clear hi); obtain ⟨hcz41_0, hcz41_1, hfz41_0, hfz41_1⟩ := cz2_ BK359.out) | (go_at_call 10; (with_reducible refine (impl_NetOk.calls t354 _ _ t355 t369 _ ?side1 ?side2 A37.out).mono ?_); (case side1 => exact nc_ (Kd.R_reads' HO_360001.out).2.2); (case side2 => exact (Kd.R_reads' HO_360001.out).2.1); rintro e w42 ⟨rfl, hb⟩; replace HO_360001 := kR_ HO_360001 hb; replace HO_366001 := kR_ HO_366001 hb; replace BK359 := kb_ BK359 hb; replace BK365 := kb_ BK365 hb; replace HB := kB_ HB hb; (try clear hb); (try clear hb2); (try clear hk); (try clear hi)))
    go_ret
    exact ⟨nw_, ne_ HB.out⟩
/-- THE ONE PURE STATEMENT of laws_FnNetGet: yours. -/
def laws_FnNetGet.Pure : Prop := ∀ (l0 : List Int), l0.length ≤ maxLen → l0.length * 1 ≤ 140737488351232 → (∀ x ∈ l0, (Lit.int .u8 x).wf = true) → ∃ k, laws_FnNetGet.f k l0 = some true
theorem laws_FnNetGet.walk (P : laws_FnNetGet.Pure) (a0 : Option Addr) (len0 cap0 : Nat) (z0 : List Int) (w : World) (w0 : (a0 = none ∧ len0 = 0 ∧ cap0 = 0 ∧ z0 = []) ∨ ∃ x, a0 = some x ∧ len0 ≤ cap0 ∧ cap0 ≤ maxLen ∧ z0.length = cap0 ∧ (∀ i, i < z0.length → w.cell? (x.add i) = some (.int .u8 (z0.getD i 0))) ∧ ∀ n ∈ z0, (Lit.int .u8 n).wf = true) (y0 : len0 * 1 ≤ 140737488351232) (hV : Aside0 (VarsOk w)) :
    Calls Tryd.prog 4 #[.slice a0 len0 cap0] w fun e w' => e = .returned (.bool true) ∧ Below w.heap.size w w' := by
  obtain ⟨l0, rfl, hr0, hm0, hw0, hc0⟩ := ReadsInt.ofRowC w0
  obtain ⟨k, h⟩ := P l0 hm0 y0 hw0
  refine (laws_FnNetGet.calls k _ _ l0 true w (Kd.C_of_reads (d := (0 : Int)) (h1 := fun _ => rfl) hr0) hc0 h).mono ?_
  rintro e w' ⟨rfl, hd⟩
  exact ⟨rfl, hd⟩

end Go.Proofs.YtppjelkljihdoaaDoor.Print
