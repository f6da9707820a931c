-- Made by this session's own program (wip/patch_print.py, over the kit's print). Lean checks it.
import Derived.Test.YtppjelkljihdoaaDoorPrint0
import Derived.Test.YtppjelkljihdoaaDoorPrintF12
import Derived.Test.YtppjelkljihdoaaDoorPrintF15
import Derived.Test.YtppjelkljihdoaaDoorPrintF16
import Derived.Test.YtppjelkljihdoaaDoorPrintF17
import Derived.Test.YtppjelkljihdoaaDoorPrintF18
namespace Go.Proofs.YtppjelkljihdoaaDoor.Print
open Go.RowKit Go.Proofs.YtppjelkljihdoaaDoorW.PrintWords Go.Proofs.YtppjelkljihdoaaDoorW.PrintLast Go.Proofs.YtppjelkljihdoaaDoorW.PrintMore Go.Proofs.YtppjelkljihdoaaDoorX
attribute [local go_sem] max2_int min2_int max_two min_two max_three min_three max_four min_four   -- for this text's walks alone
set_option linter.unusedVariables false
set_option linter.unusedSimpArgs false

abbrev rR5 := @Kd.R_reads'
/-! ### laws_FnExactNetGet: function 5 -/
mutual
def laws_FnExactNetGet.j0 : Nat → ByteArray → Bool → Bool → Int → List (S54) → Int → List (S54) → Option (Bool)
  | 0, _, _, _, _, _, _, _ => none
  | k + 1, x0, x4, x32, x399000, x399001, x405000, x405001 => if x32 = true then (some false) else ((laws_markNet.f k x405000 x405001 1).bind fun bt406 => ((laws_heldNet.f k x405000 bt406.2 1).bind fun t408 => (if t408 < 0 then (some false) else (if t408 = bt406.1 then ((impl_NetGet.f k x0).bind fun bt409 => ((laws_eqNet.f k bt409.1 bt409.2.1 x399000 x399001).bind fun t415 => (if t415 = true then (laws_FnExactNetGet.j1 k bt406.1 (bt409.2.2 != x4) x405000 bt406.2) else (laws_FnExactNetGet.j1 k bt406.1 true x405000 bt406.2)))) else (some false)))))
def laws_FnExactNetGet.j1 : Nat → Int → Bool → Int → List (S54) → Option (Bool)
  | 0, _, _, _, _ => none
  | k + 1, x7, x57, x405000, x405001 => if x57 = true then (some false) else ((laws_heldNet.f k x405000 x405001 1).bind fun t416 => (if t416 < 0 then (some false) else (if t416 = x7 then (some true) else (some false))))
end
def laws_FnExactNetGet.f (k : Nat) (a0 : ByteArray) : Option (Bool) := if (a0.size : Int) > 1048576 then (some true) else ((spec_NetGet.f k a0).bind fun bt393 => ((impl_NetGet.f k a0).bind fun bt399 => ((laws_eqNet.f k bt399.1 bt399.2.1 bt393.1 bt393.2.1).bind fun t405 => (if t405 = true then (laws_FnExactNetGet.j0 k a0 bt393.2.2 (bt399.2.2 != bt393.2.2) bt393.1 bt393.2.1 bt399.1 bt399.2.1) else (laws_FnExactNetGet.j0 k a0 bt393.2.2 true bt393.1 bt393.2.1 bt399.1 bt399.2.1)))))
theorem laws_FnExactNetGet.mono_l : ∀ k, (∀ y0 y1 y2 y3 y4 y5 y6, LeO (laws_FnExactNetGet.j0 k y0 y1 y2 y3 y4 y5 y6) (laws_FnExactNetGet.j0 (k + 1) y0 y1 y2 y3 y4 y5 y6)) ∧ (∀ y0 y1 y2 y3, LeO (laws_FnExactNetGet.j1 k y0 y1 y2 y3) (laws_FnExactNetGet.j1 (k + 1) y0 y1 y2 y3))
  | 0 => ⟨fun _ _ _ _ _ _ _ r h => by simp [laws_FnExactNetGet.j0] at h, fun _ _ _ _ r h => by simp [laws_FnExactNetGet.j1] at h⟩
  | k + 1 => by
    obtain ⟨ih0, ih1⟩ := laws_FnExactNetGet.mono_l k
    refine ⟨?_, ?_⟩
    · intro y0 y1 y2 y3 y4 y5 y6
      unfold laws_FnExactNetGet.j0
      repeat' first | (with_reducible first | exact ih0 _ _ _ _ _ _ _ | exact ih1 _ _ _ _ | exact impl_NetGet.mono _ _ | exact laws_eqNet.mono _ _ _ _ _ | exact laws_heldNet.mono _ _ _ _ | exact laws_markNet.mono _ _ _ _ | exact spec_NetGet.mono _ _ | exact LeO.refl _ | exact LeO.none _ | refine LeO.ite ?_ ?_ | refine LeO.bind ?_ (fun _ => ?_)) | exact ih0 _ _ _ _ _ _ _ | exact ih1 _ _ _ _ | exact impl_NetGet.mono _ _ | exact laws_eqNet.mono _ _ _ _ _ | exact laws_heldNet.mono _ _ _ _ | exact laws_markNet.mono _ _ _ _ | exact spec_NetGet.mono _ _ | exact LeO.none _ | refine LeO.ite ?_ ?_ | refine LeO.bind ?_ (fun _ => ?_)
    · intro y0 y1 y2 y3
      unfold laws_FnExactNetGet.j1
      repeat' first | (with_reducible first | exact ih0 _ _ _ _ _ _ _ | exact ih1 _ _ _ _ | exact impl_NetGet.mono _ _ | exact laws_eqNet.mono _ _ _ _ _ | exact laws_heldNet.mono _ _ _ _ | exact laws_markNet.mono _ _ _ _ | exact spec_NetGet.mono _ _ | exact LeO.refl _ | exact LeO.none _ | refine LeO.ite ?_ ?_ | refine LeO.bind ?_ (fun _ => ?_)) | exact ih0 _ _ _ _ _ _ _ | exact ih1 _ _ _ _ | exact impl_NetGet.mono _ _ | exact laws_eqNet.mono _ _ _ _ _ | exact laws_heldNet.mono _ _ _ _ | exact laws_markNet.mono _ _ _ _ | exact spec_NetGet.mono _ _ | exact LeO.none _ | refine LeO.ite ?_ ?_ | refine LeO.bind ?_ (fun _ => ?_)
theorem laws_FnExactNetGet.mono : ∀ a0 k, LeO (laws_FnExactNetGet.f k a0) (laws_FnExactNetGet.f (k + 1) a0) := by
  intro a0 k
  obtain ⟨ih0, ih1⟩ := laws_FnExactNetGet.mono_l k
  unfold laws_FnExactNetGet.f
  repeat' first | (with_reducible first | exact ih0 _ _ _ _ _ _ _ | exact ih1 _ _ _ _ | exact impl_NetGet.mono _ _ | exact laws_eqNet.mono _ _ _ _ _ | exact laws_heldNet.mono _ _ _ _ | exact laws_markNet.mono _ _ _ _ | exact spec_NetGet.mono _ _ | exact LeO.refl _ | exact LeO.none _ | refine LeO.ite ?_ ?_ | refine LeO.bind ?_ (fun _ => ?_)) | exact ih0 _ _ _ _ _ _ _ | exact ih1 _ _ _ _ | exact impl_NetGet.mono _ _ | exact laws_eqNet.mono _ _ _ _ _ | exact laws_heldNet.mono _ _ _ _ | exact laws_markNet.mono _ _ _ _ | exact spec_NetGet.mono _ _ | exact LeO.none _ | refine LeO.ite ?_ ?_ | refine LeO.bind ?_ (fun _ => ?_)
set_option maxHeartbeats 200000000 in
set_option maxRecDepth 100000 in
theorem laws_FnExactNetGet.calls (k : Nat) (a0 : ByteArray) (r : Bool) (w : World) (h : laws_FnExactNetGet.f k a0 = some r) (hV : Aside0 (VarsOk w) := by first | with_reducible assumption | exact vof_ (by assumption) (ne_ (Aside0.out (by assumption)))) :
    Calls Tryd.prog 5 #[.string a0] w fun e w' => e = .returned (.bool r) ∧ Below w.heap.size w w' := by
  have hu25 := Tryd.underlying25
  have HB := Aside0.mk (Below.refl w.heap.size w)
  have H : (if (a0.size : Int) > 1048576 then (some true) else ((spec_NetGet.f k a0).bind fun bt393 => ((impl_NetGet.f k a0).bind fun bt399 => ((laws_eqNet.f k bt399.1 bt399.2.1 bt393.1 bt393.2.1).bind fun t405 => (if t405 = true then (laws_FnExactNetGet.j0 k a0 bt393.2.2 (bt399.2.2 != bt393.2.2) bt393.1 bt393.2.1 bt399.1 bt399.2.1) else (laws_FnExactNetGet.j0 k a0 bt393.2.2 true bt393.1 bt393.2.1 bt399.1 bt399.2.1)))))) = some r := h
  clear h
  by_cases c2 : (a0.size : Int) > 1048576
  ·rw [if_pos c2] at H
   have c2b0 : decide (1048576 < (a0.size : Int)) = true := decide_eq_true c2
   have c2b1 : decide (1048576 < a0.size) = true := decide_eq_true (by omega)
   clear c2
   obtain rfl := Option.some.inj H
   go_enter Tryd.func5, Tryd.ntmps5
   go_wp2
   go_ret
   exact ⟨nw_, ne_ HB.out⟩
  rw [if_neg c2] at H
  have c2b0 : decide (1048576 < (a0.size : Int)) = false := decide_eq_false c2
  have c2b1 : decide (1048576 < a0.size) = false := decide_eq_false (by omega)
  clear c2
  replace H := Option.bind_eq_some_iff.mp H
  obtain ⟨⟨t393, t394, t397⟩, A30, H⟩ := H
  try dsimp only at H
  have A3 := Aside0.mk A30
  clear A30
  replace H := Option.bind_eq_some_iff.mp H
  obtain ⟨⟨t399, t400, t403⟩, A40, H⟩ := H
  try dsimp only at H
  have A4 := Aside0.mk A40
  clear A40
  have HC5 := Aside0.mk H
  clear H
  go_enter Tryd.func5, Tryd.ntmps5
  go_upto_region 5 with (first | ((with_reducible refine gate_callee (f := 15) rfl ?_); refine gl_ (some 16) Tryd.func15 #[.string a0] ?_; (with_reducible refine (spec_NetGet.calls k a0 t393 t394 t397 _ A3.out).mono ?_); rintro e w6 ⟨v395, rfl, ho0, hb⟩; refine ⟨_, rfl, ?_⟩; have HO396 := Aside0.mk (Kd.R_lower ho0 (below_size (ne_ HB.out))); replace HB := kB_ HB hb; (try clear hb); (try clear hb2); (try clear hk); (try clear hi); (try clear ho0)) | ((with_reducible refine gate_dst (N := 3) rfl ?_); refine bx_ 3 #[.int .i64 0, .slice none 0 0] 25 ?_; intro gb398 hg w7 hbox hb; have BK398 := Aside0.mk (hbox); have GW398 := Aside0.mk (zs_ hg (ne_ HB.out)); have GE398 := Aside0.mk (zs_ hg (ne_ HB.out)); replace HO396 := kR_ HO396 hb; replace HB := kB_ HB hb; clear hb hbox hg; obtain ⟨hcz8_0, hcz8_1, hfz8_0, hfz8_1⟩ := cz2_ BK398.out; obtain ⟨Ao9, co9, eo9⟩ := Kd.R_slice HO396.out; subst eo9) | ((with_reducible refine gate_callee (f := 12) rfl ?_); refine gl_ (some 21) Tryd.func12 #[.string a0] ?_; (with_reducible refine (impl_NetGet.calls k a0 t399 t400 t403 _ A4.out).mono ?_); rintro e w10 ⟨v401, rfl, ho0, hb⟩; refine ⟨_, rfl, ?_⟩; have HO402 := Aside0.mk (Kd.R_lower (Kd.R_new' ho0 (Kd.R_lt (by (with_reducible repeat (first | apply Kd.R_alloc | apply Kd.R_drewN | apply Kd.R_drew)); exact (Kd.R_mono (rf2_ (Kd.R_types HO396.out BK398.out (by decide))) (fun _ h_ => h_.1))))) (below_size (ne_ HB.out))); replace HO396 := Aside0.mk (Kd.R_elder' (by (with_reducible repeat (first | apply Kd.R_alloc | apply Kd.R_drewN | apply Kd.R_drew)); exact (Kd.R_mono (rf2_ (Kd.R_types HO396.out BK398.out (by decide))) (fun _ h_ => h_.1))) (Kd.R_base ho0) hb); replace BK398 := Aside0.mk (blk_below (g := gb398) (o := .cells #[.int .i64 t393, .slice Ao9 t394.length co9] 25 (0, 0)) (np_ BK398.out) hb); replace HB := kB_ HB hb; (try clear hb); (try clear hb2); (try clear hk); (try clear hi); (try clear ho0)) | ((with_reducible refine gate_dst (N := 5) rfl ?_); refine bx_ 5 #[.int .i64 0, .slice none 0 0] 25 ?_; intro gb404 hg w11 hbox hb; have BK404 := Aside0.mk (hbox); have GW404 := Aside0.mk (zs_ hg (ne_ HB.out)); have GE404 := Aside0.mk (zs_ hg (ne_ HB.out)); have NB398_404 := Aside0.mk (nl_ BK398.out hg); have NB404_398 := Aside0.mk (nm_ BK398.out hg); replace HO396 := kR_ HO396 hb; replace HO402 := kR_ HO402 hb; replace BK398 := kb_ BK398 hb; replace HB := kB_ HB hb; clear hb hbox hg; have hnb12 := NB404_398.out; have hnc12 := NB398_404.out; obtain ⟨hcz13_0, hcz13_1, hfz13_0, hfz13_1⟩ := cz2_ BK404.out; obtain ⟨Ao14, co14, eo14⟩ := Kd.R_slice HO402.out; subst eo14))
  (try simp only [Act.put, List.setIfInBounds_toArray, List.set_cons_zero, List.set_cons_succ])
  go_cut [32] (fun v32 wc => ∃ (kq : Nat) (x32_4 : Bool), v32 = .bool x32_4 ∧ Aside0 (laws_FnExactNetGet.j0 kq a0 t397 x32_4 t393 t394 t399 t400 = some r) ∧ Aside0 (kq ≤ k) ∧ Aside0 (Kd.R k54 54 wc w.heap.size (fun k_ => some k_ ≠ ((.slice Ao14 t400.length co14) : Value).ownBlock) (.slice Ao9 t394.length co9) t394) ∧ Aside0 (Kd.R k54 54 wc w.heap.size (fun k_ => some k_ ≠ ((.slice Ao9 t394.length co9) : Value).ownBlock) (.slice Ao14 t400.length co14) t400) ∧ Aside0 (wc.heap[gb398]? = some (.cells #[.int .i64 t393, (.slice Ao9 t394.length co9)] 25 (0, 0))) ∧ Aside0 (wc.heap[gb404]? = some (.cells #[.int .i64 t399, (.slice Ao14 t400.length co14)] 25 (0, 0))) ∧ Aside0 (Below w.heap.size w wc))
  case first =>
   have H := HC5.out
   clear HC5
   replace H := Option.bind_eq_some_iff.mp H
   obtain ⟨t405, A150, H⟩ := H
   try dsimp only at H
   have A15 := Aside0.mk A150
   clear A150
   by_cases c16 : t405 = true
   ·subst c16
    have H1 : (laws_FnExactNetGet.j0 k a0 t397 (t403 != t397) t393 t394 t399 t400) = some r := by rw [if_pos rfl] at H; exact H
    clear H
    have H := H1
    clear H1
    have H' := Aside0.mk H
    clear H
    have hnb17 := NB404_398.out
    have hnc17 := NB398_404.out
    obtain ⟨hcz18_0, hcz18_1, hfz18_0, hfz18_1⟩ := cz2_ BK404.out
    obtain ⟨hcz19_0, hcz19_1, hfz19_0, hfz19_1⟩ := cz2_ BK398.out
    go_wp2_with (first | ((with_reducible refine gate_callee (f := 16) rfl ?_); refine gl_ (some 26) Tryd.func16 #[.agg #[.int .i64 t399, .slice Ao14 t400.length co14], .agg #[.int .i64 t393, .slice Ao9 t394.length co9]] ?_; (with_reducible refine (laws_eqNet.calls k t399 _ _ t400 t393 _ _ t394 true _ ?side1 ?side2 ?side3 ?side4 A15.out).mono ?_); (case side1 => refine (rR5 (e := 54) (base := w.heap.size) (ok := fun k_ => (True ∧ some k_ ≠ (.slice Ao9 t394.length co9 : Value).ownBlock)) (n := t400.length) (c := co14) ?_).2.2; exact (by (with_reducible repeat (first | apply Kd.R_alloc | apply Kd.R_drewN | apply Kd.R_drew)); exact (Kd.R_mono (rf2_ (Kd.R_types HO402.out BK404.out (by decide))) (fun _ h_ => h_.1)))); (case side2 => exact (rR5 HO402.out).2.1); (case side3 => refine (rR5 (e := 54) (base := w.heap.size) (ok := fun k_ => (True ∧ some k_ ≠ (.slice Ao14 t400.length co14 : Value).ownBlock)) (n := t394.length) (c := co9) ?_).2.2; exact (by (with_reducible repeat (first | apply Kd.R_alloc | apply Kd.R_drewN | apply Kd.R_drew)); exact (Kd.R_mono (rf2_ (Kd.R_types HO396.out BK404.out (by decide))) (fun _ h_ => h_.1)))); (case side4 => exact (rR5 HO396.out).2.1); rintro e w20 ⟨rfl, hb⟩; refine ⟨_, rfl, ?_⟩; replace HO396 := Aside0.mk (Kd.R_below (by (with_reducible repeat (first | apply Kd.R_alloc | apply Kd.R_drewN | apply Kd.R_drew)); exact (Kd.R_mono (rf2_ (Kd.R_types HO396.out BK404.out (by decide))) (fun _ h_ => h_.1))) hb); replace HO402 := Aside0.mk (Kd.R_below (by (with_reducible repeat (first | apply Kd.R_alloc | apply Kd.R_drewN | apply Kd.R_drew)); exact (Kd.R_mono (rf2_ (Kd.R_types HO402.out BK404.out (by decide))) (fun _ h_ => h_.1))) hb); replace BK398 := kf_ BK398 hb; replace BK404 := Aside0.mk (blk_below (g := gb404) (o := .cells #[.int .i64 t399, .slice Ao14 t400.length co14] 25 (0, 0)) (np_ BK404.out) hb); replace HB := kB_ HB hb; (try clear hb); (try clear hb2); (try clear hk); (try clear hi)))
    go_meet
    case rel => exact ⟨_, ((t403 != t397)), ns_, H', ⟨by first | omega | exact Nat.le_refl _⟩, ⟨by (with_reducible repeat (first | apply Kd.R_alloc | apply Kd.R_drewN | apply Kd.R_drew)); exact Kd.R_mono HO396.out (fun _ hk => by first | exact hk.2 | trivial | simp_all)⟩, ⟨by (with_reducible repeat (first | apply Kd.R_alloc | apply Kd.R_drewN | apply Kd.R_drew)); exact Kd.R_mono HO402.out (fun _ hk => by first | exact hk.2 | trivial | simp_all)⟩, ⟨nb_ BK398.out⟩, ⟨nb_ BK404.out⟩, ⟨ne_ HB.out⟩⟩
   replace c16 := Bool.eq_false_iff.mpr c16
   subst c16
   have H1 : (laws_FnExactNetGet.j0 k a0 t397 true t393 t394 t399 t400) = some r := by rw [if_neg (show ¬ (false = true) by decide)] at H; exact H
   clear H
   have H := H1
   clear H1
   have H' := Aside0.mk H
   clear H
   have hnb21 := NB404_398.out
   have hnc21 := NB398_404.out
   obtain ⟨hcz22_0, hcz22_1, hfz22_0, hfz22_1⟩ := cz2_ BK404.out
   obtain ⟨hcz23_0, hcz23_1, hfz23_0, hfz23_1⟩ := cz2_ BK398.out
   go_wp2_with (first | ((with_reducible refine gate_callee (f := 16) rfl ?_); refine gl_ (some 26) Tryd.func16 #[.agg #[.int .i64 t399, .slice Ao14 t400.length co14], .agg #[.int .i64 t393, .slice Ao9 t394.length co9]] ?_; (with_reducible refine (laws_eqNet.calls k t399 _ _ t400 t393 _ _ t394 false _ ?side1 ?side2 ?side3 ?side4 A15.out).mono ?_); (case side1 => refine (rR5 (e := 54) (base := w.heap.size) (ok := fun k_ => (True ∧ some k_ ≠ (.slice Ao9 t394.length co9 : Value).ownBlock)) (n := t400.length) (c := co14) ?_).2.2; exact (by (with_reducible repeat (first | apply Kd.R_alloc | apply Kd.R_drewN | apply Kd.R_drew)); exact (Kd.R_mono (rf2_ (Kd.R_types HO402.out BK404.out (by decide))) (fun _ h_ => h_.1)))); (case side2 => exact (rR5 HO402.out).2.1); (case side3 => refine (rR5 (e := 54) (base := w.heap.size) (ok := fun k_ => (True ∧ some k_ ≠ (.slice Ao14 t400.length co14 : Value).ownBlock)) (n := t394.length) (c := co9) ?_).2.2; exact (by (with_reducible repeat (first | apply Kd.R_alloc | apply Kd.R_drewN | apply Kd.R_drew)); exact (Kd.R_mono (rf2_ (Kd.R_types HO396.out BK404.out (by decide))) (fun _ h_ => h_.1)))); (case side4 => exact (rR5 HO396.out).2.1); rintro e w24 ⟨rfl, hb⟩; refine ⟨_, rfl, ?_⟩; replace HO396 := Aside0.mk (Kd.R_below (by (with_reducible repeat (first | apply Kd.R_alloc | apply Kd.R_drewN | apply Kd.R_drew)); exact (Kd.R_mono (rf2_ (Kd.R_types HO396.out BK404.out (by decide))) (fun _ h_ => h_.1))) hb); replace HO402 := Aside0.mk (Kd.R_below (by (with_reducible repeat (first | apply Kd.R_alloc | apply Kd.R_drewN | apply Kd.R_drew)); exact (Kd.R_mono (rf2_ (Kd.R_types HO402.out BK404.out (by decide))) (fun _ h_ => h_.1))) hb); replace BK398 := kf_ BK398 hb; replace BK404 := Aside0.mk (blk_below (g := gb404) (o := .cells #[.int .i64 t399, .slice Ao14 t400.length co14] 25 (0, 0)) (np_ BK404.out) hb); replace HB := kB_ HB hb; (try clear hb); (try clear hb2); (try clear hk); (try clear hi)))
   go_meet
   case rel => exact ⟨_, (true), ns_, H', ⟨by first | omega | exact Nat.le_refl _⟩, ⟨by (with_reducible repeat (first | apply Kd.R_alloc | apply Kd.R_drewN | apply Kd.R_drew)); exact Kd.R_mono HO396.out (fun _ hk => by first | exact hk.2 | trivial | simp_all)⟩, ⟨by (with_reducible repeat (first | apply Kd.R_alloc | apply Kd.R_drewN | apply Kd.R_drew)); exact Kd.R_mono HO402.out (fun _ hk => by first | exact hk.2 | trivial | simp_all)⟩, ⟨nb_ BK398.out⟩, ⟨nb_ BK404.out⟩, ⟨ne_ HB.out⟩⟩
  case rest =>
   clear HC5
   try clear c2
   try clear c2b0
   try clear c2b1
   try clear hcz13_0
   try clear hcz13_1
   try clear hcz8_0
   try clear hcz8_1
   try clear hfz13_0
   try clear hfz13_1
   try clear hfz8_0
   try clear hfz8_1
   obtain ⟨kq, x32_4, rfl, HA, HJ4, HO_399001, HO_405001, BK398, BK404, HB⟩ := hcut
   cases kq with
   | zero => exact absurd HA.out (by simp [laws_FnExactNetGet.j0])
   | succ kj4 =>
    have H := HA.out
    clear HA
    simp only [laws_FnExactNetGet.j0] at H
    by_cases c25 : x32_4 = true
    ·subst c25
     have H1 : (some false) = some r := by rw [if_pos rfl] at H; exact H
     clear H
     have H := H1
     clear H1
     obtain rfl := Option.some.inj H
     go_wp2
     go_ret
     exact ⟨nw_, ne_ HB.out⟩
    replace c25 := Bool.eq_false_iff.mpr c25
    subst c25
    have H1 : ((laws_markNet.f kj4 t399 t400 1).bind fun bt406 => ((laws_heldNet.f kj4 t399 bt406.2 1).bind fun t408 => (if t408 < 0 then (some false) else (if t408 = bt406.1 then ((impl_NetGet.f kj4 a0).bind fun bt409 => ((laws_eqNet.f kj4 bt409.1 bt409.2.1 t393 t394).bind fun t415 => (if t415 = true then (laws_FnExactNetGet.j1 kj4 bt406.1 (bt409.2.2 != t397) t399 bt406.2) else (laws_FnExactNetGet.j1 kj4 bt406.1 true t399 bt406.2)))) else (some false))))) = some r := by rw [if_neg (show ¬ (false = true) by decide)] at H; exact H
    clear H
    have H := H1
    clear H1
    replace H := Option.bind_eq_some_iff.mp H
    obtain ⟨⟨t406, t407⟩, A260, H⟩ := H
    try dsimp only at H
    have A26 := Aside0.mk A260
    clear A260
    replace H := Option.bind_eq_some_iff.mp H
    obtain ⟨t408, A270, H⟩ := H
    try dsimp only at H
    have A27 := Aside0.mk A270
    clear A270
    by_cases c28 : t408 < 0
    ·rw [if_pos c28] at H
     have c28b0 : decide (t408 < 0) = true := decide_eq_true c28
     clear c28
     obtain rfl := Option.some.inj H
     have hnb29 := NB404_398.out
     have hnc29 := NB398_404.out
     obtain ⟨hcz30_0, hcz30_1, hfz30_0, hfz30_1⟩ := cz2_ BK404.out
     go_wp2_with (first | ((with_reducible refine gate_callee (f := 17) rfl ?_); refine gl_ (some 35) Tryd.func17 #[.agg #[.int .i64 t399, .slice Ao14 t400.length co14], .int .i64 1] ?_; (with_reducible refine (laws_markNet.calls kj4 t399 (fun k_ => some k_ = (.slice Ao14 t400.length co14 : Value).ownBlock) (.slice Ao14 t400.length co14) t400 1 t406 t407 w _ ?side1 ?side2 A26.out).mono ?_); (case side1 => exact (ne_ HB.out)); (case side2 => exact Kd.R_tight rfl HO_405001.out); rintro e w31 ⟨rfl, hy0, hb, hkp⟩; refine ⟨_, rfl, ?_⟩; replace HO_399001 := Aside0.mk (Kd.R_mono (ok' := fun k_ => some k_ ≠ (.slice Ao14 t400.length co14 : Value).ownBlock) (Kd.R_keptB (HO_399001.out) hkp (fun k_ hk_ hs_ => (hk_) hs_)) (fun k_ hk_ => hk_.1)); replace BK398 := Aside0.mk (blk_kept (g := gb398) (o := .cells #[.int .i64 t393, .slice Ao9 t394.length co9] 25 (0, 0)) (nb_ BK398.out) hkp (fun hs_ => (fun e_ => (Kd.R_ne HO_405001.out BK398.out (by decide)) e_) hs_)); replace BK404 := Aside0.mk (blk_kept (g := gb404) (o := .cells #[.int .i64 t399, .slice Ao14 t400.length co14] 25 (0, 0)) (nb_ BK404.out) hkp (fun hs_ => (fun e_ => (Kd.R_ne HO_405001.out BK404.out (by decide)) e_) hs_)); replace HO_405001 := Aside0.mk (Kd.R_reok rfl hy0 (fun k_ e_ => HO_405001.out.1 k_ e_)); replace HB := Aside0.mk (hb); (try clear hb); (try clear hkp); (try clear hy0); obtain ⟨hcz32_0, hcz32_1, hfz32_0, hfz32_1⟩ := cz2_ BK404.out) | ((with_reducible refine gate_callee (f := 18) rfl ?_); refine goesL_ (some 38) rfl rfl Tryd.func18 (by kernel_rfl) rfl #[.agg #[.int .i64 t399, .slice Ao14 t407.length co14], .int .i64 1] rfl (by (try simp only [List.map_toArray, List.map_cons, List.map_nil]); first | done | (rw [show t407.length = t400.length from (rR5 HO_405001.out).1.symm] <;> rfl) | rfl | (simp only [List.length_drop, List.length_take]; rfl)) ?_; (with_reducible refine (laws_heldNet.calls kj4 t399 _ _ t407 1 t408 _ ?side1 ?side2 A27.out).mono ?_); (case side1 => exact nc_ (rR5 HO_405001.out).2.2); (case side2 => rw [show t407.length = t400.length from (rR5 HO_405001.out).1.symm]; exact (rR5 HO_405001.out).2.1); rintro e w33 ⟨rfl, hb⟩; refine ⟨_, rfl, ?_⟩; replace HO_399001 := kR_ HO_399001 hb; replace HO_405001 := kR_ HO_405001 hb; replace BK398 := kb_ BK398 hb; replace BK404 := kb_ BK404 hb; replace HB := kB_ HB hb; (try clear hb); (try clear hb2); (try clear hk); (try clear hi)))
     go_ret
     exact ⟨nw_, ne_ HB.out⟩
    rw [if_neg c28] at H
    have c28b0 : decide (t408 < 0) = false := decide_eq_false c28
    clear c28
    by_cases c34 : t408 = t406
    rotate_left
    ·rw [if_neg c34] at H
     have c34b0 : (t408 == t406) = false := beq_eq_false_iff_ne.mpr c34
     have c34b1 : (t408 != t406) = true := bne_iff_ne.mpr c34
     obtain rfl := Option.some.inj H
     have hnb78 := NB404_398.out
     have hnc78 := NB398_404.out
     obtain ⟨hcz79_0, hcz79_1, hfz79_0, hfz79_1⟩ := cz2_ BK404.out
     go_wp2_with (first | ((with_reducible refine gate_callee (f := 17) rfl ?_); refine gl_ (some 35) Tryd.func17 #[.agg #[.int .i64 t399, .slice Ao14 t400.length co14], .int .i64 1] ?_; (with_reducible refine (laws_markNet.calls kj4 t399 (fun k_ => some k_ = (.slice Ao14 t400.length co14 : Value).ownBlock) (.slice Ao14 t400.length co14) t400 1 t406 t407 w _ ?side1 ?side2 A26.out).mono ?_); (case side1 => exact (ne_ HB.out)); (case side2 => exact Kd.R_tight rfl HO_405001.out); rintro e w80 ⟨rfl, hy0, hb, hkp⟩; refine ⟨_, rfl, ?_⟩; replace HO_399001 := Aside0.mk (Kd.R_mono (ok' := fun k_ => some k_ ≠ (.slice Ao14 t400.length co14 : Value).ownBlock) (Kd.R_keptB (HO_399001.out) hkp (fun k_ hk_ hs_ => (hk_) hs_)) (fun k_ hk_ => hk_.1)); replace BK398 := Aside0.mk (blk_kept (g := gb398) (o := .cells #[.int .i64 t393, .slice Ao9 t394.length co9] 25 (0, 0)) (nb_ BK398.out) hkp (fun hs_ => (fun e_ => (Kd.R_ne HO_405001.out BK398.out (by decide)) e_) hs_)); replace BK404 := Aside0.mk (blk_kept (g := gb404) (o := .cells #[.int .i64 t399, .slice Ao14 t400.length co14] 25 (0, 0)) (nb_ BK404.out) hkp (fun hs_ => (fun e_ => (Kd.R_ne HO_405001.out BK404.out (by decide)) e_) hs_)); replace HO_405001 := Aside0.mk (Kd.R_reok rfl hy0 (fun k_ e_ => HO_405001.out.1 k_ e_)); replace HB := Aside0.mk (hb); (try clear hb); (try clear hkp); (try clear hy0); obtain ⟨hcz81_0, hcz81_1, hfz81_0, hfz81_1⟩ := cz2_ BK404.out) | ((with_reducible refine gate_callee (f := 18) rfl ?_); refine goesL_ (some 38) rfl rfl Tryd.func18 (by kernel_rfl) rfl #[.agg #[.int .i64 t399, .slice Ao14 t407.length co14], .int .i64 1] rfl (by (try simp only [List.map_toArray, List.map_cons, List.map_nil]); first | done | (rw [show t407.length = t400.length from (rR5 HO_405001.out).1.symm] <;> rfl) | rfl | (simp only [List.length_drop, List.length_take]; rfl)) ?_; (with_reducible refine (laws_heldNet.calls kj4 t399 _ _ t407 1 t408 _ ?side1 ?side2 A27.out).mono ?_); (case side1 => exact nc_ (rR5 HO_405001.out).2.2); (case side2 => rw [show t407.length = t400.length from (rR5 HO_405001.out).1.symm]; exact (rR5 HO_405001.out).2.1); rintro e w82 ⟨rfl, hb⟩; refine ⟨_, rfl, ?_⟩; replace HO_399001 := kR_ HO_399001 hb; replace HO_405001 := kR_ HO_405001 hb; replace BK398 := kb_ BK398 hb; replace BK404 := kb_ BK404 hb; replace HB := kB_ HB hb; (try clear hb); (try clear hb2); (try clear hk); (try clear hi)))
     go_ret
     exact ⟨nw_, ne_ HB.out⟩

    rw [if_pos c34] at H
    have c34b0 : (t408 == t406) = true := beq_iff_eq.mpr c34
    have c34b1 : (t408 != t406) = false := bne_eq_false_iff_eq.mpr c34
    clear c34
    replace H := Option.bind_eq_some_iff.mp H
    obtain ⟨⟨t409, t410, t413⟩, A350, H⟩ := H
    try dsimp only at H
    have A35 := Aside0.mk A350
    clear A350
    have HC36 := Aside0.mk H
    clear H
    have hnb37 := NB404_398.out
    have hnc37 := NB398_404.out
    obtain ⟨hcz38_0, hcz38_1, hfz38_0, hfz38_1⟩ := cz2_ BK404.out
    go_upto_region 16 with (first | ((with_reducible refine gate_callee (f := 17) rfl ?_); refine gl_ (some 35) Tryd.func17 #[.agg #[.int .i64 t399, .slice Ao14 t400.length co14], .int .i64 1] ?_; (with_reducible refine (laws_markNet.calls kj4 t399 (fun k_ => some k_ = (.slice Ao14 t400.length co14 : Value).ownBlock) (.slice Ao14 t400.length co14) t400 1 t406 t407 w _ ?side1 ?side2 A26.out).mono ?_); (case side1 => exact (ne_ HB.out)); (case side2 => exact Kd.R_tight rfl HO_405001.out); rintro e w39 ⟨rfl, hy0, hb, hkp⟩; refine ⟨_, rfl, ?_⟩; replace HO_399001 := Aside0.mk (Kd.R_mono (ok' := fun k_ => some k_ ≠ (.slice Ao14 t400.length co14 : Value).ownBlock) (Kd.R_keptB (HO_399001.out) hkp (fun k_ hk_ hs_ => (hk_) hs_)) (fun k_ hk_ => hk_.1)); replace BK398 := Aside0.mk (blk_kept (g := gb398) (o := .cells #[.int .i64 t393, .slice Ao9 t394.length co9] 25 (0, 0)) (nb_ BK398.out) hkp (fun hs_ => (fun e_ => (Kd.R_ne HO_405001.out BK398.out (by decide)) e_) hs_)); replace BK404 := Aside0.mk (blk_kept (g := gb404) (o := .cells #[.int .i64 t399, .slice Ao14 t400.length co14] 25 (0, 0)) (nb_ BK404.out) hkp (fun hs_ => (fun e_ => (Kd.R_ne HO_405001.out BK404.out (by decide)) e_) hs_)); replace HO_405001 := Aside0.mk (Kd.R_reok rfl hy0 (fun k_ e_ => HO_405001.out.1 k_ e_)); replace HB := Aside0.mk (hb); (try clear hb); (try clear hkp); (try clear hy0); obtain ⟨hcz40_0, hcz40_1, hfz40_0, hfz40_1⟩ := cz2_ BK404.out) | ((with_reducible refine gate_callee (f := 18) rfl ?_); refine goesL_ (some 38) rfl rfl Tryd.func18 (by kernel_rfl) rfl #[.agg #[.int .i64 t399, .slice Ao14 t407.length co14], .int .i64 1] rfl (by (try simp only [List.map_toArray, List.map_cons, List.map_nil]); first | done | (rw [show t407.length = t400.length from (rR5 HO_405001.out).1.symm] <;> rfl) | rfl | (simp only [List.length_drop, List.length_take]; rfl)) ?_; (with_reducible refine (laws_heldNet.calls kj4 t399 _ _ t407 1 t408 _ ?side1 ?side2 A27.out).mono ?_); (case side1 => exact nc_ (rR5 HO_405001.out).2.2); (case side2 => rw [show t407.length = t400.length from (rR5 HO_405001.out).1.symm]; exact (rR5 HO_405001.out).2.1); rintro e w41 ⟨rfl, hb⟩; refine ⟨_, rfl, ?_⟩; replace HO_399001 := kR_ HO_399001 hb; replace HO_405001 := kR_ HO_405001 hb; replace BK398 := kb_ BK398 hb; replace BK404 := kb_ BK404 hb; replace HB := kB_ HB hb; (try clear hb); (try clear hb2); (try clear hk); (try clear hi)) | ((with_reducible refine gate_callee (f := 12) rfl ?_); refine gl_ (some 46) Tryd.func12 #[.string a0] ?_; (with_reducible refine (impl_NetGet.calls kj4 a0 t409 t410 t413 _ A35.out).mono ?_); rintro e w42 ⟨v411, rfl, ho0, hb⟩; refine ⟨_, rfl, ?_⟩; have HO412 := Aside0.mk (Kd.R_lower (Kd.R_new' (Kd.R_new' ho0 (Kd.R_lt (nr_ HO_399001.out))) (Kd.R_lt (nr_ HO_405001.out))) (below_size (ne_ HB.out))); replace HO_399001 := Aside0.mk (Kd.R_elder' (nr_ HO_399001.out) (Kd.R_base ho0) hb); replace HO_405001 := Aside0.mk (Kd.R_elder' (nr_ HO_405001.out) (Kd.R_base ho0) hb); replace BK398 := kb_ BK398 hb; replace BK404 := kb_ BK404 hb; replace HB := kB_ HB hb; (try clear hb); (try clear hb2); (try clear hk); (try clear hi); (try clear ho0)) | ((with_reducible refine gate_dst (N := 9) rfl ?_); refine bx_ 9 #[.int .i64 0, .slice none 0 0] 25 ?_; intro gb414 hg w43 hbox hb; have BK414 := Aside0.mk (hbox); have GW414 := Aside0.mk (zs_ hg (ne_ HB.out)); have GE414 := Aside0.mk (zs_ hg (ne_ HB.out)); have NB398_414 := Aside0.mk (nl_ BK398.out hg); have NB414_398 := Aside0.mk (nm_ BK398.out hg); have NB404_414 := Aside0.mk (nl_ BK404.out hg); have NB414_404 := Aside0.mk (nm_ BK404.out hg); replace HO_399001 := kR_ HO_399001 hb; replace HO_405001 := kR_ HO_405001 hb; replace HO412 := kR_ HO412 hb; replace BK398 := kb_ BK398 hb; replace BK404 := kb_ BK404 hb; replace HB := kB_ HB hb; clear hb hbox hg; have hnb44 := NB414_398.out; have hnc44 := NB398_414.out; have hnb45 := NB414_404.out; have hnc45 := NB404_414.out; obtain ⟨hcz46_0, hcz46_1, hfz46_0, hfz46_1⟩ := cz2_ BK414.out; obtain ⟨Ao47, co47, eo47⟩ := Kd.R_slice HO412.out; subst eo47))
    (try simp only [Act.put, List.setIfInBounds_toArray, List.set_cons_zero, List.set_cons_succ])
    go_cut [57] (fun v57 wc => ∃ (kq : Nat) (x57_35 : Bool), v57 = .bool x57_35 ∧ Aside0 (laws_FnExactNetGet.j1 kq t406 x57_35 t399 t407 = some r) ∧ Aside0 (kq ≤ kj4) ∧ Aside0 (Kd.R k54 54 wc w.heap.size (fun k_ => some k_ ≠ ((.slice Ao14 t400.length co14) : Value).ownBlock ∧ some k_ ≠ ((.slice Ao47 t410.length co47) : Value).ownBlock) (.slice Ao9 t394.length co9) t394) ∧ Aside0 (Kd.R k54 54 wc w.heap.size (fun k_ => some k_ ≠ ((.slice Ao9 t394.length co9) : Value).ownBlock ∧ some k_ ≠ ((.slice Ao47 t410.length co47) : Value).ownBlock) (.slice Ao14 t400.length co14) t407) ∧ Aside0 (Kd.R k54 54 wc w.heap.size (fun k_ => some k_ ≠ ((.slice Ao9 t394.length co9) : Value).ownBlock ∧ some k_ ≠ ((.slice Ao14 t400.length co14) : Value).ownBlock) (.slice Ao47 t410.length co47) t410) ∧ Aside0 (wc.heap[gb398]? = some (.cells #[.int .i64 t393, (.slice Ao9 t394.length co9)] 25 (0, 0))) ∧ Aside0 (wc.heap[gb404]? = some (.cells #[.int .i64 t399, (.slice Ao14 t400.length co14)] 25 (0, 0))) ∧ Aside0 (wc.heap[gb414]? = some (.cells #[.int .i64 t409, (.slice Ao47 t410.length co47)] 25 (0, 0))) ∧ Aside0 (Below w.heap.size w wc))
    case first =>
     have H := HC36.out
     clear HC36
     replace H := Option.bind_eq_some_iff.mp H
     obtain ⟨t415, A480, H⟩ := H
     try dsimp only at H
     have A48 := Aside0.mk A480
     clear A480
     by_cases c49 : t415 = true
     ·subst c49
      have H1 : (laws_FnExactNetGet.j1 kj4 t406 (t413 != t397) t399 t407) = some r := by rw [if_pos rfl] at H; exact H
      clear H
      have H := H1
      clear H1
      have H' := Aside0.mk H
      clear H
      have hnb50 := NB414_398.out
      have hnc50 := NB398_414.out
      have hnb51 := NB414_404.out
      have hnc51 := NB404_414.out
      obtain ⟨hcz52_0, hcz52_1, hfz52_0, hfz52_1⟩ := cz2_ BK414.out
      have hnb53 := NB398_404.out
      have hnc53 := NB404_398.out
      obtain ⟨hcz54_0, hcz54_1, hfz54_0, hfz54_1⟩ := cz2_ BK398.out
      go_wp2_with (first | ((with_reducible refine gate_callee (f := 16) rfl ?_); refine gl_ (some 51) Tryd.func16 #[.agg #[.int .i64 t409, .slice Ao47 t410.length co47], .agg #[.int .i64 t393, .slice Ao9 t394.length co9]] ?_; (with_reducible refine (laws_eqNet.calls kj4 t409 _ _ t410 t393 _ _ t394 true _ ?side1 ?side2 ?side3 ?side4 A48.out).mono ?_); (case side1 => refine (rR5 (e := 54) (base := w.heap.size) (ok := fun k_ => ((True ∧ some k_ ≠ (.slice Ao9 t394.length co9 : Value).ownBlock) ∧ some k_ ≠ (.slice Ao14 t400.length co14 : Value).ownBlock)) (n := t410.length) (c := co47) ?_).2.2; exact (by (with_reducible repeat (first | apply Kd.R_alloc | apply Kd.R_drewN | apply Kd.R_drew)); exact (Kd.R_mono (rf2_ (Kd.R_types HO412.out BK414.out (by decide))) (fun _ h_ => h_.1)))); (case side2 => exact (rR5 HO412.out).2.1); (case side3 => refine (rR5 (e := 54) (base := w.heap.size) (ok := fun k_ => (some k_ ≠ (.slice Ao14 t400.length co14 : Value).ownBlock ∧ some k_ ≠ (.slice Ao47 t410.length co47 : Value).ownBlock)) (n := t394.length) (c := co9) ?_).2.2; exact (by (with_reducible repeat (first | apply Kd.R_alloc | apply Kd.R_drewN | apply Kd.R_drew)); exact (Kd.R_mono (rf2_ (Kd.R_types HO_399001.out BK414.out (by decide))) (fun _ h_ => h_.1)))); (case side4 => exact (rR5 HO_399001.out).2.1); rintro e w55 ⟨rfl, hb⟩; refine ⟨_, rfl, ?_⟩; replace HO_399001 := Aside0.mk (Kd.R_below (by (with_reducible repeat (first | apply Kd.R_alloc | apply Kd.R_drewN | apply Kd.R_drew)); exact (Kd.R_mono (rf2_ (Kd.R_types HO_399001.out BK414.out (by decide))) (fun _ h_ => h_.1))) hb); replace HO_405001 := Aside0.mk (Kd.R_below (by (with_reducible repeat (first | apply Kd.R_alloc | apply Kd.R_drewN | apply Kd.R_drew)); exact (Kd.R_mono (rf2_ (Kd.R_types HO_405001.out BK414.out (by decide))) (fun _ h_ => h_.1))) hb); replace HO412 := Aside0.mk (Kd.R_below (by (with_reducible repeat (first | apply Kd.R_alloc | apply Kd.R_drewN | apply Kd.R_drew)); exact (Kd.R_mono (rf2_ (Kd.R_types HO412.out BK414.out (by decide))) (fun _ h_ => h_.1))) hb); replace BK398 := kf_ BK398 hb; replace BK404 := kf_ BK404 hb; replace BK414 := Aside0.mk (blk_below (g := gb414) (o := .cells #[.int .i64 t409, .slice Ao47 t410.length co47] 25 (0, 0)) (np_ BK414.out) hb); replace HB := kB_ HB hb; (try clear hb); (try clear hb2); (try clear hk); (try clear hi)))
      go_meet
      case rel => exact ⟨_, ((t413 != t397)), ns_, H', ⟨by have := HJ4.out; first | omega | exact Nat.le_refl _⟩, ⟨nr_ HO_399001.out⟩, ⟨nr_ HO_405001.out⟩, ⟨by (with_reducible repeat (first | apply Kd.R_alloc | apply Kd.R_drewN | apply Kd.R_drew)); exact Kd.R_mono HO412.out (fun _ hk => by first | exact ⟨hk.1.2, hk.2⟩ | trivial | simp_all)⟩, ⟨nb_ BK398.out⟩, ⟨nb_ BK404.out⟩, ⟨nb_ BK414.out⟩, ⟨ne_ HB.out⟩⟩
     replace c49 := Bool.eq_false_iff.mpr c49
     subst c49
     have H1 : (laws_FnExactNetGet.j1 kj4 t406 true t399 t407) = some r := by rw [if_neg (show ¬ (false = true) by decide)] at H; exact H
     clear H
     have H := H1
     clear H1
     have H' := Aside0.mk H
     clear H
     have hnb56 := NB414_398.out
     have hnc56 := NB398_414.out
     have hnb57 := NB414_404.out
     have hnc57 := NB404_414.out
     obtain ⟨hcz58_0, hcz58_1, hfz58_0, hfz58_1⟩ := cz2_ BK414.out
     have hnb59 := NB398_404.out
     have hnc59 := NB404_398.out
     obtain ⟨hcz60_0, hcz60_1, hfz60_0, hfz60_1⟩ := cz2_ BK398.out
     go_wp2_with (first | ((with_reducible refine gate_callee (f := 16) rfl ?_); refine gl_ (some 51) Tryd.func16 #[.agg #[.int .i64 t409, .slice Ao47 t410.length co47], .agg #[.int .i64 t393, .slice Ao9 t394.length co9]] ?_; (with_reducible refine (laws_eqNet.calls kj4 t409 _ _ t410 t393 _ _ t394 false _ ?side1 ?side2 ?side3 ?side4 A48.out).mono ?_); (case side1 => refine (rR5 (e := 54) (base := w.heap.size) (ok := fun k_ => ((True ∧ some k_ ≠ (.slice Ao9 t394.length co9 : Value).ownBlock) ∧ some k_ ≠ (.slice Ao14 t400.length co14 : Value).ownBlock)) (n := t410.length) (c := co47) ?_).2.2; exact (by (with_reducible repeat (first | apply Kd.R_alloc | apply Kd.R_drewN | apply Kd.R_drew)); exact (Kd.R_mono (rf2_ (Kd.R_types HO412.out BK414.out (by decide))) (fun _ h_ => h_.1)))); (case side2 => exact (rR5 HO412.out).2.1); (case side3 => refine (rR5 (e := 54) (base := w.heap.size) (ok := fun k_ => (some k_ ≠ (.slice Ao14 t400.length co14 : Value).ownBlock ∧ some k_ ≠ (.slice Ao47 t410.length co47 : Value).ownBlock)) (n := t394.length) (c := co9) ?_).2.2; exact (by (with_reducible repeat (first | apply Kd.R_alloc | apply Kd.R_drewN | apply Kd.R_drew)); exact (Kd.R_mono (rf2_ (Kd.R_types HO_399001.out BK414.out (by decide))) (fun _ h_ => h_.1)))); (case side4 => exact (rR5 HO_399001.out).2.1); rintro e w61 ⟨rfl, hb⟩; refine ⟨_, rfl, ?_⟩; replace HO_399001 := Aside0.mk (Kd.R_below (by (with_reducible repeat (first | apply Kd.R_alloc | apply Kd.R_drewN | apply Kd.R_drew)); exact (Kd.R_mono (rf2_ (Kd.R_types HO_399001.out BK414.out (by decide))) (fun _ h_ => h_.1))) hb); replace HO_405001 := Aside0.mk (Kd.R_below (by (with_reducible repeat (first | apply Kd.R_alloc | apply Kd.R_drewN | apply Kd.R_drew)); exact (Kd.R_mono (rf2_ (Kd.R_types HO_405001.out BK414.out (by decide))) (fun _ h_ => h_.1))) hb); replace HO412 := Aside0.mk (Kd.R_below (by (with_reducible repeat (first | apply Kd.R_alloc | apply Kd.R_drewN | apply Kd.R_drew)); exact (Kd.R_mono (rf2_ (Kd.R_types HO412.out BK414.out (by decide))) (fun _ h_ => h_.1))) hb); replace BK398 := kf_ BK398 hb; replace BK404 := kf_ BK404 hb; replace BK414 := Aside0.mk (blk_below (g := gb414) (o := .cells #[.int .i64 t409, .slice Ao47 t410.length co47] 25 (0, 0)) (np_ BK414.out) hb); replace HB := kB_ HB hb; (try clear hb); (try clear hb2); (try clear hk); (try clear hi)))
     go_meet
     case rel => exact ⟨_, (true), ns_, H', ⟨by have := HJ4.out; first | omega | exact Nat.le_refl _⟩, ⟨nr_ HO_399001.out⟩, ⟨nr_ HO_405001.out⟩, ⟨by (with_reducible repeat (first | apply Kd.R_alloc | apply Kd.R_drewN | apply Kd.R_drew)); exact Kd.R_mono HO412.out (fun _ hk => by first | exact ⟨hk.1.2, hk.2⟩ | trivial | simp_all)⟩, ⟨nb_ BK398.out⟩, ⟨nb_ BK404.out⟩, ⟨nb_ BK414.out⟩, ⟨ne_ HB.out⟩⟩
    case rest =>
     clear HC36
     try clear c2
     try clear c2b0
     try clear c2b1
     try clear c25
     try clear c28
     try clear c28b0
     try clear c34
     try clear c34b0
     try clear c34b1
     try clear hcz13_0
     try clear hcz13_1
     try clear hcz38_0
     try clear hcz38_1
     try clear hcz40_0
     try clear hcz40_1
     try clear hcz46_0
     try clear hcz46_1
     try clear hcz8_0
     try clear hcz8_1
     try clear hfz13_0
     try clear hfz13_1
     try clear hfz38_0
     try clear hfz38_1
     try clear hfz40_0
     try clear hfz40_1
     try clear hfz46_0
     try clear hfz46_1
     try clear hfz8_0
     try clear hfz8_1
     obtain ⟨kq, x57_35, rfl, HA, HJ35, HO_399001, HO_405001, HO_415001, BK398, BK404, BK414, HB⟩ := hcut
     have hl405001_35 := (rR5 HO_405001.out).1
     rw [hl405001_35] at HO_405001
     (try simp only [hl405001_35])
     (try simp only [hl405001_35] at BK398)
     (try simp only [hl405001_35] at BK404)
     (try simp only [hl405001_35] at BK414)
     (try simp only [hl405001_35] at HO_399001)
     (try simp only [hl405001_35] at HO_415001)
     cases kq with
     | zero => exact absurd HA.out (by simp [laws_FnExactNetGet.j1])
     | succ kj35 =>
      have H := HA.out
      clear HA
      simp only [laws_FnExactNetGet.j1] at H
      by_cases c62 : x57_35 = true
      ·subst c62
       have H1 : (some false) = some r := by rw [if_pos rfl] at H; exact H
       clear H
       have H := H1
       clear H1
       obtain rfl := Option.some.inj H
       go_wp2
       go_ret
       exact ⟨nw_, ne_ HB.out⟩
      replace c62 := Bool.eq_false_iff.mpr c62
      subst c62
      have H1 : ((laws_heldNet.f kj35 t399 t407 1).bind fun t416 => (if t416 < 0 then (some false) else (if t416 = t406 then (some true) else (some false)))) = some r := by rw [if_neg (show ¬ (false = true) by decide)] at H; exact H
      clear H
      have H := H1
      clear H1
      replace H := Option.bind_eq_some_iff.mp H
      obtain ⟨t416, A630, H⟩ := H
      replace H : (if t416 < 0 then (some false) else (if t416 = t406 then (some true) else (some false))) = some r := H
      have A63 := Aside0.mk A630
      clear A630
      by_cases c64 : t416 < 0
      ·rw [if_pos c64] at H
       have c64b0 : decide (t416 < 0) = true := decide_eq_true c64
       clear c64
       obtain rfl := Option.some.inj H
       have hnb65 := NB404_398.out
       have hnc65 := NB398_404.out
       have hnb66 := NB404_414.out
       have hnc66 := NB414_404.out
       obtain ⟨hcz67_0, hcz67_1, hfz67_0, hfz67_1⟩ := cz2_ BK404.out
       go_wp2_with (first | ((with_reducible refine gate_callee (f := 18) rfl ?_); refine gl_ (some 60) Tryd.func18 #[.agg #[.int .i64 t399, .slice Ao14 t407.length co14], .int .i64 1] ?_; (with_reducible refine (laws_heldNet.calls kj35 t399 _ _ t407 1 t416 _ ?side1 ?side2 A63.out).mono ?_); (case side1 => exact nc_ (rR5 HO_405001.out).2.2); (case side2 => exact (rR5 HO_405001.out).2.1); rintro e w68 ⟨rfl, hb⟩; refine ⟨_, rfl, ?_⟩; replace HO_399001 := kR_ HO_399001 hb; replace HO_405001 := kR_ HO_405001 hb; replace HO_415001 := kR_ HO_415001 hb; replace BK398 := kb_ BK398 hb; replace BK404 := kb_ BK404 hb; replace BK414 := kb_ BK414 hb; replace HB := kB_ HB hb; (try clear hb); (try clear hb2); (try clear hk); (try clear hi)))
       go_ret
       exact ⟨nw_, ne_ HB.out⟩
      rw [if_neg c64] at H
      have c64b0 : decide (t416 < 0) = false := decide_eq_false c64
      clear c64
      by_cases c69 : t416 = t406
      rotate_left
      ·rw [if_neg c69] at H
       have c69b0 : (t416 == t406) = false := beq_eq_false_iff_ne.mpr c69
       have c69b1 : (t416 != t406) = true := bne_iff_ne.mpr c69
       obtain rfl := Option.some.inj H
       have hnb74 := NB404_398.out
       have hnc74 := NB398_404.out
       have hnb75 := NB404_414.out
       have hnc75 := NB414_404.out
       obtain ⟨hcz76_0, hcz76_1, hfz76_0, hfz76_1⟩ := cz2_ BK404.out
       go_wp2_with (first | ((with_reducible refine gate_callee (f := 18) rfl ?_); refine gl_ (some 60) Tryd.func18 #[.agg #[.int .i64 t399, .slice Ao14 t407.length co14], .int .i64 1] ?_; (with_reducible refine (laws_heldNet.calls kj35 t399 _ _ t407 1 t416 _ ?side1 ?side2 A63.out).mono ?_); (case side1 => exact nc_ (rR5 HO_405001.out).2.2); (case side2 => exact (rR5 HO_405001.out).2.1); rintro e w77 ⟨rfl, hb⟩; refine ⟨_, rfl, ?_⟩; replace HO_399001 := kR_ HO_399001 hb; replace HO_405001 := kR_ HO_405001 hb; replace HO_415001 := kR_ HO_415001 hb; replace BK398 := kb_ BK398 hb; replace BK404 := kb_ BK404 hb; replace BK414 := kb_ BK414 hb; replace HB := kB_ HB hb; (try clear hb); (try clear hb2); (try clear hk); (try clear hi)))
       go_ret
       exact ⟨nw_, ne_ HB.out⟩
      rw [if_pos c69] at H
      have c69b0 : (t416 == t406) = true := beq_iff_eq.mpr c69
      have c69b1 : (t416 != t406) = false := bne_eq_false_iff_eq.mpr c69
      clear c69
      obtain rfl := Option.some.inj H
      have hnb70 := NB404_398.out
      have hnc70 := NB398_404.out
      have hnb71 := NB404_414.out
      have hnc71 := NB414_404.out
      obtain ⟨hcz72_0, hcz72_1, hfz72_0, hfz72_1⟩ := cz2_ BK404.out
      go_wp2_with (first | ((with_reducible refine gate_callee (f := 18) rfl ?_); refine gl_ (some 60) Tryd.func18 #[.agg #[.int .i64 t399, .slice Ao14 t407.length co14], .int .i64 1] ?_; (with_reducible refine (laws_heldNet.calls kj35 t399 _ _ t407 1 t416 _ ?side1 ?side2 A63.out).mono ?_); (case side1 => exact nc_ (rR5 HO_405001.out).2.2); (case side2 => exact (rR5 HO_405001.out).2.1); rintro e w73 ⟨rfl, hb⟩; refine ⟨_, rfl, ?_⟩; replace HO_399001 := kR_ HO_399001 hb; replace HO_405001 := kR_ HO_405001 hb; replace HO_415001 := kR_ HO_415001 hb; replace BK398 := kb_ BK398 hb; replace BK404 := kb_ BK404 hb; replace BK414 := kb_ BK414 hb; replace HB := kB_ HB hb; (try clear hb); (try clear hb2); (try clear hk); (try clear hi)))
      go_ret
      exact ⟨nw_, ne_ HB.out⟩
/-- THE ONE PURE STATEMENT of laws_FnExactNetGet: yours. -/
def laws_FnExactNetGet.Pure : Prop := ∀ (a0 : ByteArray), a0.size ≤ 140737488351232 → ∃ k, laws_FnExactNetGet.f k a0 = some true
theorem laws_FnExactNetGet.walk (P : laws_FnExactNetGet.Pure) (a0 : ByteArray) (w : World) (w0 : a0.size ≤ 140737488351232) (hV : Aside0 (VarsOk w)) :
    Calls Tryd.prog 5 #[.string a0] w fun e w' => e = .returned (.bool true) ∧ Below w.heap.size w w' := by
  obtain ⟨k, h⟩ := P a0 w0
  refine (laws_FnExactNetGet.calls k a0 true w h).mono ?_
  rintro e w' ⟨rfl, hd⟩
  exact ⟨rfl, hd⟩

end Go.Proofs.YtppjelkljihdoaaDoor.Print
