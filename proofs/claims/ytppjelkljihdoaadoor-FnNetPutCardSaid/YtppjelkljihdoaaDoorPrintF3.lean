-- Made by this session's own program (wip/patch_print.py, over the kit's print). Lean checks it.
import Derived.Test.YtppjelkljihdoaaDoorPrint0
import Derived.Test.YtppjelkljihdoaaDoorPrintF10
import Derived.Test.YtppjelkljihdoaaDoorPrintF11
import Derived.Test.YtppjelkljihdoaaDoorPrintF12
import Derived.Test.YtppjelkljihdoaaDoorPrintF13
import Derived.Test.YtppjelkljihdoaaDoorPrintF7
import Derived.Test.YtppjelkljihdoaaDoorPrintF8
import Derived.Test.YtppjelkljihdoaaDoorPrintF9
namespace Go.Proofs.YtppjelkljihdoaaDoor.Print
open Go.RowKit Go.Proofs.YtppjelkljihdoaaDoorW.PrintWords Go.Proofs.YtppjelkljihdoaaDoorW.PrintLast Go.Proofs.YtppjelkljihdoaaDoorW.PrintMore Go.Proofs.YtppjelkljihdoaaDoorX
attribute [local go_sem] max2_int min2_int max_two min_two max_three min_three max_four min_four   -- for this text's walks alone
set_option linter.unusedVariables false
set_option linter.unusedSimpArgs false

abbrev z3_0 := bm_ 15 0
abbrev z3_1 := bm_ 15 1
abbrev z3_2 := bm_ 15 3
abbrev z3_3 := bm_ 15 7
abbrev z3_4 := bm_ 15 15
abbrev z3_5 := bm_ 15 31
abbrev z3_6 := bm_ 15 63
abbrev z3_7 := bm_ 15 191
abbrev z3_8 := bm_ 15 255
abbrev z3_9 := bm_ 15 511
abbrev z3_10 := bm_ 15 1023
abbrev z3_11 := bm_ 15 2047
abbrev z3_12 := bm_ 15 4095
abbrev z3_13 := bm_ 15 8191
abbrev z3_14 := bm_ 15 16383
abbrev z3_15 := bm_ 15 32767
abbrev z3_16 := bm_ 17 0
abbrev z3_17 := bm_ 17 1
abbrev z3_18 := bm_ 17 3
abbrev z3_19 := bm_ 17 7
abbrev z3_20 := bm_ 17 15
abbrev z3_21 := bm_ 17 31
abbrev z3_22 := bm_ 17 63
abbrev z3_23 := bm_ 17 191
abbrev z3_24 := bm_ 17 255
abbrev z3_25 := bm_ 17 511
abbrev z3_26 := bm_ 17 1023
abbrev z3_27 := bm_ 17 2047
abbrev z3_28 := bm_ 17 4095
abbrev z3_29 := bm_ 17 8191
abbrev z3_30 := bm_ 17 16383
abbrev z3_31 := bm_ 17 32767
abbrev z3_32 := bm_ 17 65535
abbrev z3_33 := bm_ 17 131071
abbrev rR3 := @Kd.R_reads'
/-! ### laws_FnNetPut: function 3 -/
def laws_FnNetPut.j0 : Nat → ByteArray → Bool → Int → List (S54) → Option (Bool)
  | 0, _, _, _, _ => none
  | k + 1, x4, x28, x269000, x269001 => if x28 = true then ((spec_NetPut.f k x269000 x269001).bind fun t273 => (if x4.toList = t273.toList then ((impl_NetOk.f x269000 x269001).bind fun t274 => ((spec_NetOk.f k x269000 x269001).bind fun t275 => (if (t274 == t275) = true then ((impl_NetOk.f x269000 x269001).bind fun t276 => (some (!t276))) else (some false)))) else (some false))) else ((impl_NetGet.f k x4).bind fun bt277 => (if bt277.2.2 = true then ((laws_wkNet.f k bt277.1 bt277.2.1 x269000 x269001).bind fun t283 => (some t283)) else (some false)))
def laws_FnNetPut.f (k : Nat) (l0 : List Int) : Option (Bool) := if (l0.length : Int) > 1048576 then (some true) else ((spec_DrawNetPut.f k l0).bind fun bt264 => ((impl_NetPut.f bt264.1 bt264.2).bind fun t269 => ((spec_NetPut.f k bt264.1 bt264.2).bind fun t270 => (if t269.toList = t270.toList then ((impl_NetOk.f bt264.1 bt264.2).bind fun t271 => ((spec_NetOk.f k bt264.1 bt264.2).bind fun t272 => (if (t271 != t272) = true then (laws_FnNetPut.j0 k t269 true bt264.1 bt264.2) else (laws_FnNetPut.j0 k t269 (t269.toList == ([] : List UInt8)) bt264.1 bt264.2)))) else (laws_FnNetPut.j0 k t269 true bt264.1 bt264.2)))))
theorem laws_FnNetPut.mono_l : ∀ k, (∀ y0 y1 y2 y3, LeO (laws_FnNetPut.j0 k y0 y1 y2 y3) (laws_FnNetPut.j0 (k + 1) y0 y1 y2 y3))
  | 0 => fun _ _ _ _ r h => by simp [laws_FnNetPut.j0] at h
  | k + 1 => by
    have ih0 := laws_FnNetPut.mono_l k
    · intro y0 y1 y2 y3
      unfold laws_FnNetPut.j0
      repeat' first | (with_reducible first | exact ih0 _ _ _ _ | exact impl_NetGet.mono _ _ | exact laws_wkNet.mono _ _ _ _ _ | exact spec_DrawNetPut.mono _ _ | exact spec_NetOk.mono _ _ _ | exact spec_NetPut.mono _ _ _ | exact LeO.refl _ | exact LeO.none _ | refine LeO.ite ?_ ?_ | refine LeO.bind ?_ (fun _ => ?_)) | exact ih0 _ _ _ _ | exact impl_NetGet.mono _ _ | exact laws_wkNet.mono _ _ _ _ _ | exact spec_DrawNetPut.mono _ _ | exact spec_NetOk.mono _ _ _ | exact spec_NetPut.mono _ _ _ | exact LeO.none _ | refine LeO.ite ?_ ?_ | refine LeO.bind ?_ (fun _ => ?_)
theorem laws_FnNetPut.mono : ∀ a0 k, LeO (laws_FnNetPut.f k a0) (laws_FnNetPut.f (k + 1) a0) := by
  intro a0 k
  have ih0 := laws_FnNetPut.mono_l k
  unfold laws_FnNetPut.f
  repeat' first | (with_reducible first | exact ih0 _ _ _ _ | exact impl_NetGet.mono _ _ | exact laws_wkNet.mono _ _ _ _ _ | exact spec_DrawNetPut.mono _ _ | exact spec_NetOk.mono _ _ _ | exact spec_NetPut.mono _ _ _ | exact LeO.refl _ | exact LeO.none _ | refine LeO.ite ?_ ?_ | refine LeO.bind ?_ (fun _ => ?_)) | exact ih0 _ _ _ _ | exact impl_NetGet.mono _ _ | exact laws_wkNet.mono _ _ _ _ _ | exact spec_DrawNetPut.mono _ _ | exact spec_NetOk.mono _ _ _ | exact spec_NetPut.mono _ _ _ | exact LeO.none _ | refine LeO.ite ?_ ?_ | refine LeO.bind ?_ (fun _ => ?_)
def laws_FnNetPut.T5 : Bool × List (List Nat × List Nat) := (true, [([], []), ([], []), ([1], [1]), ([0, 2], [0, 2]), ([3, 2], [3]), ([4], [4]), ([5, 4, 4], [4, 5]), ([4], [4]), ([7, 6, 4], [4, 7]), ([6, 8, 4], [4, 6, 8]), ([4, 9], [4, 9]), ([10, 8], [10]), ([11], [11]), ([12, 11], [11, 12]), ([11, 13], [11, 13])])
def laws_FnNetPut.B5 : List Nat := [0, 0, 2, 7, 15, 31, 63, 31, 255, 511, 1023, 2047, 4095, 8191, 16383]
theorem laws_FnNetPut.tab5 : rtab .any (opsOf Tryd.f3 5) = laws_FnNetPut.T5 := by kernel_rfl
theorem laws_FnNetPut.bits5 : waitsOk laws_FnNetPut.T5.2 laws_FnNetPut.B5 = true := by kernel_rfl
def laws_FnNetPut.T6 : Bool × List (List Nat × List Nat) := (true, [([], []), ([], []), ([1], [1]), ([0, 2], [0, 2]), ([3, 2], [3]), ([4], [4]), ([5, 4, 4], [4, 5]), ([4], [4]), ([7, 6, 4], [4, 7]), ([6, 8, 4], [4, 6, 8]), ([4, 9], [4, 9]), ([10, 8], [10]), ([11], [11]), ([12, 11, 11], [11, 12]), ([13, 11], [11, 13]), ([11, 14], [11, 14]), ([15, 13, 0, 1, 2, 3, 4, 5, 6, 7, 8, 9, 10, 11, 12, 13, 14, 15], [15])])
def laws_FnNetPut.B6 : List Nat := [0, 0, 2, 7, 15, 31, 63, 31, 255, 511, 1023, 2047, 4095, 8191, 16383, 32767, 65535]
theorem laws_FnNetPut.tab6 : rtab .any (opsOf Tryd.f3 6) = laws_FnNetPut.T6 := by kernel_rfl
theorem laws_FnNetPut.bits6 : waitsOk laws_FnNetPut.T6.2 laws_FnNetPut.B6 = true := by kernel_rfl
set_option maxHeartbeats 200000000 in
set_option maxRecDepth 100000 in
theorem laws_FnNetPut.calls (k : Nat) (A0 : Option Addr) (c0 : Nat) (l0 : List Int) (r : Bool) (w : World) (hr0 : Kd.C (Kd.int .u8) w A0 l0.length l0) (hc0 : l0.length ≤ c0) (h : laws_FnNetPut.f k l0 = some r) (hV : Aside0 (VarsOk w) := by first | with_reducible assumption | exact vof_ (by assumption) (ne_ (Aside0.out (by assumption)))) :
    Calls Tryd.prog 3 #[.slice A0 l0.length c0] w fun e w' => e = .returned (.bool r) ∧ Below w.heap.size w w' := by
  have hu25 := Tryd.underlying25
  have HR0 := Aside0.mk hr0
  have HC0 := Aside0.mk hc0
  clear hr0 hc0
  have HB := Aside0.mk (Below.refl w.heap.size w)
  have H : (if (l0.length : Int) > 1048576 then (some true) else ((spec_DrawNetPut.f k l0).bind fun bt264 => ((impl_NetPut.f bt264.1 bt264.2).bind fun t269 => ((spec_NetPut.f k bt264.1 bt264.2).bind fun t270 => (if t269.toList = t270.toList then ((impl_NetOk.f bt264.1 bt264.2).bind fun t271 => ((spec_NetOk.f k bt264.1 bt264.2).bind fun t272 => (if (t271 != t272) = true then (laws_FnNetPut.j0 k t269 true bt264.1 bt264.2) else (laws_FnNetPut.j0 k t269 (t269.toList == ([] : List UInt8)) bt264.1 bt264.2)))) else (laws_FnNetPut.j0 k t269 true bt264.1 bt264.2)))))) = some r := h
  clear h
  by_cases c2 : (l0.length : Int) > 1048576
  ·rw [if_pos c2] at H
   have c2b0 : decide (1048576 < (l0.length : Int)) = true := decide_eq_true c2
   have c2b1 : decide (1048576 < l0.length) = true := decide_eq_true (by omega)
   clear c2
   obtain rfl := Option.some.inj H
   go_enter Tryd.func3, Tryd.ntmps3
   go_wp2
   go_ret
   exact ⟨nw_, ne_ HB.out⟩
  rw [if_neg c2] at H
  have c2b0 : decide (1048576 < (l0.length : Int)) = false := decide_eq_false c2
  have c2b1 : decide (1048576 < l0.length) = false := decide_eq_false (by omega)
  clear c2
  replace H := Option.bind_eq_some_iff.mp H
  obtain ⟨⟨t264, t265⟩, A30, H⟩ := H
  try dsimp only at H
  have A3 := Aside0.mk A30
  clear A30
  replace H := Option.bind_eq_some_iff.mp H
  obtain ⟨t269, A40, H⟩ := H
  try dsimp only at H
  have A4 := Aside0.mk A40
  clear A40
  have HC5 := Aside0.mk H
  clear H
  go_enter Tryd.func3, Tryd.ntmps3
  go_upto_region 5 with (first | ((with_reducible refine gate_callee (f := 7) rfl ?_); refine gl_ (some 11) Tryd.func7 #[.slice A0 l0.length c0] ?_; (with_reducible refine (spec_DrawNetPut.calls k _ _ l0 t264 t265 _ ?side1 ?side2 A3.out).mono ?_); (case side1 => repeat (first | exact HR0.out | (with_reducible refine Kd.C_alloc ?_ _) | (with_reducible refine Kd.C_drewN ?_ _) | (with_reducible refine Kd.C_drew ?_))); (case side2 => exact HC0.out); rintro e w6 ⟨v266, rfl, ho0, hb⟩; refine ⟨_, rfl, ?_⟩; have HO267 := Aside0.mk (Kd.R_lower ho0 (below_size (ne_ HB.out))); replace HB := kB_ HB hb; (try clear hb); (try clear hb2); (try clear hk); (try clear hi); (try clear ho0)) | ((with_reducible refine gate_dst (N := 3) rfl ?_); refine bx_ 3 #[.int .i64 0, .slice none 0 0] 25 ?_; intro gb268 hg w7 hbox hb; have BK268 := Aside0.mk (hbox); have GW268 := Aside0.mk (zs_ hg (ne_ HB.out)); have GE268 := Aside0.mk (zs_ hg (ne_ HB.out)); replace HO267 := kR_ HO267 hb; replace HB := kB_ HB hb; clear hb hbox hg; obtain ⟨hcz8_0, hcz8_1, hfz8_0, hfz8_1⟩ := cz2_ BK268.out; obtain ⟨Ao9, co9, eo9⟩ := Kd.R_slice HO267.out; subst eo9) | ((with_reducible refine gate_callee (f := 8) rfl ?_); refine gl_ (some 13) Tryd.func8 #[.agg #[.int .i64 t264, .slice Ao9 t265.length co9]] ?_; (with_reducible refine (impl_NetPut.calls t264 _ _ t265 t269 _ ?side1 ?side2 A4.out).mono ?_); (case side1 => refine (rR3 (e := 54) (base := w.heap.size) (ok := fun k_ => True) (n := t265.length) (c := co9) ?_).2.2; exact (by (with_reducible repeat (first | apply Kd.R_alloc | apply Kd.R_drewN | apply Kd.R_drew)); exact (Kd.R_mono (rf2_ (Kd.R_types HO267.out BK268.out (by decide))) (fun _ h_ => h_.1)))); (case side2 => exact (rR3 HO267.out).2.1); rintro e w10 ⟨rfl, hb⟩; refine ⟨_, rfl, ?_⟩; replace HO267 := Aside0.mk (Kd.R_below (by (with_reducible repeat (first | apply Kd.R_alloc | apply Kd.R_drewN | apply Kd.R_drew)); exact (Kd.R_mono (rf2_ (Kd.R_types HO267.out BK268.out (by decide))) (fun _ h_ => h_.1))) hb); replace BK268 := Aside0.mk (blk_below (g := gb268) (o := .cells #[.int .i64 t264, .slice Ao9 t265.length co9] 25 (0, 0)) (np_ BK268.out) hb); replace HB := kB_ HB hb; (try clear hb); (try clear hb2); (try clear hk); (try clear hi)))
  (try simp only [Act.put, List.setIfInBounds_toArray, List.set_cons_zero, List.set_cons_succ])
  go_cut [28] (fun v28 wc => ∃ (kq : Nat) (x28_4 : Bool), v28 = .bool x28_4 ∧ Aside0 (laws_FnNetPut.j0 kq t269 x28_4 t264 t265 = some r) ∧ Aside0 (kq ≤ k) ∧ Aside0 (Kd.R k54 54 wc w.heap.size (fun _ => True) (.slice Ao9 t265.length co9) t265) ∧ Aside0 (wc.heap[gb268]? = some (.cells #[.int .i64 t264, (.slice Ao9 t265.length co9)] 25 (0, 0))) ∧ Aside0 (Below w.heap.size w wc))
  case first =>
   have H := HC5.out
   clear HC5
   replace H := Option.bind_eq_some_iff.mp H
   obtain ⟨t270, A110, H⟩ := H
   try dsimp only at H
   have A11 := Aside0.mk A110
   clear A110
   by_cases c12 : t269.toList = t270.toList
   rotate_left
   ·rw [if_neg c12] at H
    have c12b0 : (t269.toList == t270.toList) = false := beq_eq_false_iff_ne.mpr c12
    have c12b1 : (t269.toList != t270.toList) = true := bne_iff_ne.mpr c12
    (first | rw [c12b0] | (simp only [i64_w, i32_w]; rw [c12b0]) | skip)
    have H' := Aside0.mk H
    clear H
    try go_wp2
    replace HO267 := Aside0.mk (Kd.R_drew HO267.out)
    replace BK268 := Aside0.mk (blk_drew BK268.out)
    replace HB := Aside0.mk (below_drew1 HB.out)
    refine start_ (n := 15) (S := fun w' => w'.cell? ⟨gb268, 0, none⟩ = some (.int .i64 t264) ∧ w'.cell? ⟨gb268, 1, none⟩ = some (.slice Ao9 t265.length co9)) (ds := []) z3_0 (by kernel_rfl) rfl rfl ⟨ct_ BK268.out 0, ct_ BK268.out 1⟩ (fun hHeld => ?_); refine with_tabW laws_FnNetPut.tab5 laws_FnNetPut.bits5 (fun HT_ HW_ => ?_)
    generalize w10.drew = w24 at HO267 BK268 HB hHeld ⊢
    refine pu_ 0 14 z3_1 HT_.out ?_
    refine tk_ 1 15 z3_2 HT_.out HW_.out hHeld ?_
    refine one_ (i := 2) (N := some 16) z3_3 rfl rfl (one_of HT_.out (by kernel_rfl)) (by decide) (fun K hK => ?_)
    refine go_ Tryd.func9 #[.agg #[.int .i64 t264, .slice Ao9 t265.length co9]] ?_
    with_reducible refine (spec_NetPut.calls k t264 _ _ t265 t270 _ ?side1 ?side2 A11.out).mono ?_
    (case side1 => exact nc_ (rR3 HO267.out).2.2)
    (case side2 => exact (rR3 HO267.out).2.1)
    rintro e w25 ⟨rfl, hb⟩
    refine ⟨_, rfl, ?_⟩
    replace HO267 := kR_ HO267 hb
    replace BK268 := kb_ BK268 hb
    replace HB := kB_ HB hb
    (try clear hb)
    (try clear hb2)
    (try clear hk)
    (try clear hi)
    refine hK.out _ _ ⟨ct_ BK268.out 0, ct_ BK268.out 1⟩ (fun hHeld => ?_)
    clear hK K
    refine nm1_ (some 16) ?_
    refine pu_ 3 17 z3_4 HT_.out ?_
    refine pu_ 4 18 z3_5 HT_.out ?_
    refine un_ 5 19 z3_6 HT_.out ?_
    refine un_ 6 20 (bm_ 15 127) HT_.out ?_
    refine un_ 7 21 z3_8 HT_.out ?_
    refine un_ 8 22 z3_9 HT_.out ?_
    refine un_ 9 23 z3_10 HT_.out ?_
    refine pu_ 10 24 z3_11 HT_.out ?_
    refine pu_ 11 25 z3_12 HT_.out ?_
    refine un_ 12 26 z3_13 HT_.out ?_
    refine un_ 13 27 z3_14 HT_.out ?_
    refine pu_ 14 28 z3_15 HT_.out ?_
    refine done_ (done_of HT_.out (by kernel_rfl)) ?_
    try go_wp2
    go_meet
    case rel => exact ⟨_, (true), ns_, H', ⟨by first | omega | exact Nat.le_refl _⟩, ⟨nr_ HO267.out⟩, ⟨nb_ BK268.out⟩, ⟨ne_ HB.out⟩⟩
   rw [if_pos c12] at H
   have c12b0 : (t269.toList == t270.toList) = true := beq_iff_eq.mpr c12
   have c12b1 : (t269.toList != t270.toList) = false := bne_eq_false_iff_eq.mpr c12
   clear c12
   (first | rw [c12b0] | (simp only [i64_w, i32_w]; rw [c12b0]) | skip)
   replace H := Option.bind_eq_some_iff.mp H
   obtain ⟨t271, A130, H⟩ := H
   try dsimp only at H
   have A13 := Aside0.mk A130
   clear A130
   replace H := Option.bind_eq_some_iff.mp H
   obtain ⟨t272, A140, H⟩ := H
   try dsimp only at H
   have A14 := Aside0.mk A140
   clear A140
   by_cases c15 : (t271 != t272) = true
   rotate_left
   ·rw [if_neg c15] at H
    have c15b0 : (t271 != t272) = false := by simpa using c15
    (try (have c15b1 : decide (t271 = t272) = true := by simpa using c15))
    (try (have c15b2 : (t271 == t272) = true := by simpa using c15))
    clear c15
    have H' := Aside0.mk H
    clear H
    try go_wp2
    replace HO267 := Aside0.mk (Kd.R_drew HO267.out)
    replace BK268 := Aside0.mk (blk_drew BK268.out)
    replace HB := Aside0.mk (below_drew1 HB.out)
    refine start_ (n := 15) (S := fun w' => w'.cell? ⟨gb268, 0, none⟩ = some (.int .i64 t264) ∧ w'.cell? ⟨gb268, 1, none⟩ = some (.slice Ao9 t265.length co9)) (ds := []) z3_0 (by kernel_rfl) rfl rfl ⟨ct_ BK268.out 0, ct_ BK268.out 1⟩ (fun hHeld => ?_); refine with_tabW laws_FnNetPut.tab5 laws_FnNetPut.bits5 (fun HT_ HW_ => ?_)
    generalize w10.drew = w20 at HO267 BK268 HB hHeld ⊢
    refine pu_ 0 14 z3_1 HT_.out ?_
    refine tk_ 1 15 z3_2 HT_.out HW_.out hHeld ?_
    refine one_ (i := 2) (N := some 16) z3_3 rfl rfl (one_of HT_.out (by kernel_rfl)) (by decide) (fun K hK => ?_)
    refine go_ Tryd.func9 #[.agg #[.int .i64 t264, .slice Ao9 t265.length co9]] ?_
    with_reducible refine (spec_NetPut.calls k t264 _ _ t265 t270 _ ?side1 ?side2 A11.out).mono ?_
    (case side1 => exact nc_ (rR3 HO267.out).2.2)
    (case side2 => exact (rR3 HO267.out).2.1)
    rintro e w21 ⟨rfl, hb⟩
    refine ⟨_, rfl, ?_⟩
    replace HO267 := kR_ HO267 hb
    replace BK268 := kb_ BK268 hb
    replace HB := kB_ HB hb
    (try clear hb)
    (try clear hb2)
    (try clear hk)
    (try clear hi)
    refine hK.out _ _ ⟨ct_ BK268.out 0, ct_ BK268.out 1⟩ (fun hHeld => ?_)
    clear hK K
    refine nm1_ (some 16) ?_
    refine pu_ 3 17 z3_4 HT_.out ?_
    refine pu_ 4 18 z3_5 HT_.out ?_
    refine tk_ 5 19 z3_6 HT_.out HW_.out hHeld ?_
    refine tk_ 7 21 z3_7 HT_.out HW_.out hHeld ?_
    refine one_ (i := 6) (N := some 20) z3_8 rfl rfl (one_of HT_.out (by kernel_rfl)) (by decide) (fun K hK => ?_)
    refine go_ Tryd.func10 #[.agg #[.int .i64 t264, .slice Ao9 t265.length co9]] ?_
    with_reducible refine (impl_NetOk.calls t264 _ _ t265 t271 _ ?side1 ?side2 A13.out).mono ?_
    (case side1 => exact nc_ (rR3 HO267.out).2.2)
    (case side2 => exact (rR3 HO267.out).2.1)
    rintro e w22 ⟨rfl, hb⟩
    refine ⟨_, rfl, ?_⟩
    replace HO267 := kR_ HO267 hb
    replace BK268 := kb_ BK268 hb
    replace HB := kB_ HB hb
    (try clear hb)
    (try clear hb2)
    (try clear hk)
    (try clear hi)
    refine hK.out _ _ ⟨ct_ BK268.out 0, ct_ BK268.out 1⟩ (fun hHeld => ?_)
    clear hK K
    refine nm1_ (some 20) ?_
    refine one_ (i := 8) (N := some 22) z3_9 rfl rfl (one_of HT_.out (by kernel_rfl)) (by decide) (fun K hK => ?_)
    refine go_ Tryd.func11 #[.agg #[.int .i64 t264, .slice Ao9 t265.length co9]] ?_
    with_reducible refine (spec_NetOk.calls k t264 _ _ t265 t272 _ ?side1 ?side2 A14.out).mono ?_
    (case side1 => exact nc_ (rR3 HO267.out).2.2)
    (case side2 => exact (rR3 HO267.out).2.1)
    rintro e w23 ⟨rfl, hb⟩
    refine ⟨_, rfl, ?_⟩
    replace HO267 := kR_ HO267 hb
    replace BK268 := kb_ BK268 hb
    replace HB := kB_ HB hb
    (try clear hb)
    (try clear hb2)
    (try clear hk)
    (try clear hi)
    refine hK.out _ _ ⟨ct_ BK268.out 0, ct_ BK268.out 1⟩ (fun hHeld => ?_)
    clear hK K
    refine nm1_ (some 22) ?_
    refine pu_ 9 23 z3_10 HT_.out ?_
    refine pu_ 10 24 z3_11 HT_.out ?_
    refine pu_ 11 25 z3_12 HT_.out ?_
    refine pu_ 12 26 z3_13 HT_.out ?_
    refine pu_ 13 27 z3_14 HT_.out ?_
    refine pu_ 14 28 z3_15 HT_.out ?_
    refine done_ (done_of HT_.out (by kernel_rfl)) ?_
    try go_wp2
    go_meet
    case rel => exact ⟨_, ((t269.toList == ([] : List UInt8))), ns_, H', ⟨by first | omega | exact Nat.le_refl _⟩, ⟨nr_ HO267.out⟩, ⟨nb_ BK268.out⟩, ⟨ne_ HB.out⟩⟩
   rw [if_pos c15] at H
   have c15b0 : (t271 != t272) = true := c15
   (try (have c15b1 : decide (t271 = t272) = false := by simpa using c15))
   (try (have c15b2 : (t271 == t272) = false := by simpa using c15))
   (try (have c15b3 : ¬ (t271 = t272) := by simpa using c15))
   clear c15
   have H' := Aside0.mk H
   clear H
   try go_wp2
   replace HO267 := Aside0.mk (Kd.R_drew HO267.out)
   replace BK268 := Aside0.mk (blk_drew BK268.out)
   replace HB := Aside0.mk (below_drew1 HB.out)
   refine start_ (n := 15) (S := fun w' => w'.cell? ⟨gb268, 0, none⟩ = some (.int .i64 t264) ∧ w'.cell? ⟨gb268, 1, none⟩ = some (.slice Ao9 t265.length co9)) (ds := []) z3_0 (by kernel_rfl) rfl rfl ⟨ct_ BK268.out 0, ct_ BK268.out 1⟩ (fun hHeld => ?_); refine with_tabW laws_FnNetPut.tab5 laws_FnNetPut.bits5 (fun HT_ HW_ => ?_)
   generalize w10.drew = w16 at HO267 BK268 HB hHeld ⊢
   refine pu_ 0 14 z3_1 HT_.out ?_
   refine tk_ 1 15 z3_2 HT_.out HW_.out hHeld ?_
   refine one_ (i := 2) (N := some 16) z3_3 rfl rfl (one_of HT_.out (by kernel_rfl)) (by decide) (fun K hK => ?_)
   refine go_ Tryd.func9 #[.agg #[.int .i64 t264, .slice Ao9 t265.length co9]] ?_
   with_reducible refine (spec_NetPut.calls k t264 _ _ t265 t270 _ ?side1 ?side2 A11.out).mono ?_
   (case side1 => exact nc_ (rR3 HO267.out).2.2)
   (case side2 => exact (rR3 HO267.out).2.1)
   rintro e w17 ⟨rfl, hb⟩
   refine ⟨_, rfl, ?_⟩
   replace HO267 := kR_ HO267 hb
   replace BK268 := kb_ BK268 hb
   replace HB := kB_ HB hb
   (try clear hb)
   (try clear hb2)
   (try clear hk)
   (try clear hi)
   refine hK.out _ _ ⟨ct_ BK268.out 0, ct_ BK268.out 1⟩ (fun hHeld => ?_)
   clear hK K
   refine nm1_ (some 16) ?_
   refine pu_ 3 17 z3_4 HT_.out ?_
   refine pu_ 4 18 z3_5 HT_.out ?_
   refine tk_ 5 19 z3_6 HT_.out HW_.out hHeld ?_
   refine tk_ 7 21 z3_7 HT_.out HW_.out hHeld ?_
   refine one_ (i := 6) (N := some 20) z3_8 rfl rfl (one_of HT_.out (by kernel_rfl)) (by decide) (fun K hK => ?_)
   refine go_ Tryd.func10 #[.agg #[.int .i64 t264, .slice Ao9 t265.length co9]] ?_
   with_reducible refine (impl_NetOk.calls t264 _ _ t265 t271 _ ?side1 ?side2 A13.out).mono ?_
   (case side1 => exact nc_ (rR3 HO267.out).2.2)
   (case side2 => exact (rR3 HO267.out).2.1)
   rintro e w18 ⟨rfl, hb⟩
   refine ⟨_, rfl, ?_⟩
   replace HO267 := kR_ HO267 hb
   replace BK268 := kb_ BK268 hb
   replace HB := kB_ HB hb
   (try clear hb)
   (try clear hb2)
   (try clear hk)
   (try clear hi)
   refine hK.out _ _ ⟨ct_ BK268.out 0, ct_ BK268.out 1⟩ (fun hHeld => ?_)
   clear hK K
   refine nm1_ (some 20) ?_
   refine one_ (i := 8) (N := some 22) z3_9 rfl rfl (one_of HT_.out (by kernel_rfl)) (by decide) (fun K hK => ?_)
   refine go_ Tryd.func11 #[.agg #[.int .i64 t264, .slice Ao9 t265.length co9]] ?_
   with_reducible refine (spec_NetOk.calls k t264 _ _ t265 t272 _ ?side1 ?side2 A14.out).mono ?_
   (case side1 => exact nc_ (rR3 HO267.out).2.2)
   (case side2 => exact (rR3 HO267.out).2.1)
   rintro e w19 ⟨rfl, hb⟩
   refine ⟨_, rfl, ?_⟩
   replace HO267 := kR_ HO267 hb
   replace BK268 := kb_ BK268 hb
   replace HB := kB_ HB hb
   (try clear hb)
   (try clear hb2)
   (try clear hk)
   (try clear hi)
   refine hK.out _ _ ⟨ct_ BK268.out 0, ct_ BK268.out 1⟩ (fun hHeld => ?_)
   clear hK K
   refine nm1_ (some 22) ?_
   refine pu_ 9 23 z3_10 HT_.out ?_
   refine pu_ 10 24 z3_11 HT_.out ?_
   refine pu_ 11 25 z3_12 HT_.out ?_
   refine un_ 12 26 z3_13 HT_.out ?_
   refine un_ 13 27 z3_14 HT_.out ?_
   refine pu_ 14 28 z3_15 HT_.out ?_
   refine done_ (done_of HT_.out (by kernel_rfl)) ?_
   try go_wp2
   go_meet
   case rel => exact ⟨_, (true), ns_, H', ⟨by first | omega | exact Nat.le_refl _⟩, ⟨nr_ HO267.out⟩, ⟨nb_ BK268.out⟩, ⟨ne_ HB.out⟩⟩
  case rest =>
   clear HC5
   try clear c2
   try clear c2b0
   try clear c2b1
   try clear hcz8_0
   try clear hcz8_1
   try clear hfz8_0
   try clear hfz8_1
   obtain ⟨kq, x28_4, rfl, HA, HJ4, HO_269001, BK268, HB⟩ := hcut
   cases kq with
   | zero => exact absurd HA.out (by simp [laws_FnNetPut.j0])
   | succ kj4 =>
    have H := HA.out
    clear HA
    simp only [laws_FnNetPut.j0] at H
    by_cases c26 : x28_4 = true
    rotate_left
    ·replace c26 := Bool.eq_false_iff.mpr c26
     subst c26
     have H1 : ((impl_NetGet.f kj4 t269).bind fun bt277 => (if bt277.2.2 = true then ((laws_wkNet.f kj4 bt277.1 bt277.2.1 t264 t265).bind fun t283 => (some t283)) else (some false))) = some r := by rw [if_neg (show ¬ (false = true) by decide)] at H; exact H
     clear H
     have H := H1
     clear H1
     replace H := Option.bind_eq_some_iff.mp H
     obtain ⟨⟨t277, t278, t281⟩, A440, H⟩ := H
     replace H : (if t281 = true then ((laws_wkNet.f kj4 t277 t278 t264 t265).bind fun t283 => (some t283)) else (some false)) = some r := H
     have A44 := Aside0.mk A440
     clear A440
     by_cases c45 : t281 = true
     rotate_left
     ·replace c45 := Bool.eq_false_iff.mpr c45
      subst c45
      have H1 : (some false) = some r := by rw [if_neg (show ¬ (false = true) by decide)] at H; exact H
      clear H
      have H := H1
      clear H1
      obtain rfl := Option.some.inj H
      go_wp2_with (first | ((with_reducible refine gate_callee (f := 12) rfl ?_); refine gl_ (some 47) Tryd.func12 #[.string t269] ?_; (with_reducible refine (impl_NetGet.calls kj4 t269 t277 t278 false _ A44.out).mono ?_); rintro e w54 ⟨v279, rfl, ho0, hb⟩; refine ⟨_, rfl, ?_⟩; have HO280 := Aside0.mk (Kd.R_lower (Kd.R_new' ho0 (Kd.R_lt (nr_ HO_269001.out))) (below_size (ne_ HB.out))); replace HO_269001 := Aside0.mk (Kd.R_elder' (nr_ HO_269001.out) (Kd.R_base ho0) hb); replace BK268 := kb_ BK268 hb; replace HB := kB_ HB hb; (try clear hb); (try clear hb2); (try clear hk); (try clear hi); (try clear ho0)) | ((with_reducible refine gate_dst (N := 5) rfl ?_); refine bx_ 5 #[.int .i64 0, .slice none 0 0] 25 ?_; intro gb282 hg w55 hbox hb; have BK282 := Aside0.mk (hbox); have GW282 := Aside0.mk (zs_ hg (ne_ HB.out)); have GE282 := Aside0.mk (zs_ hg (ne_ HB.out)); have NB268_282 := Aside0.mk (nl_ BK268.out hg); have NB282_268 := Aside0.mk (nm_ BK268.out hg); replace HO_269001 := kR_ HO_269001 hb; replace HO280 := kR_ HO280 hb; replace BK268 := kb_ BK268 hb; replace HB := kB_ HB hb; clear hb hbox hg; have hnb56 := NB282_268.out; have hnc56 := NB268_282.out; obtain ⟨hcz57_0, hcz57_1, hfz57_0, hfz57_1⟩ := cz2_ BK282.out; obtain ⟨Ao58, co58, eo58⟩ := Kd.R_slice HO280.out; subst eo58))
      go_ret
      exact ⟨nw_, ne_ HB.out⟩

     subst c45
     have H1 : ((laws_wkNet.f kj4 t277 t278 t264 t265).bind fun t283 => (some t283)) = some r := by rw [if_pos rfl] at H; exact H
     clear H
     have H := H1
     clear H1
     replace H := Option.bind_eq_some_iff.mp H
     obtain ⟨t283, A460, H⟩ := H
     replace H : (some t283) = some r := H
     have A46 := Aside0.mk A460
     clear A460
     obtain rfl := Option.some.inj H
     go_wp2_with (first | ((with_reducible refine gate_callee (f := 12) rfl ?_); refine gl_ (some 47) Tryd.func12 #[.string t269] ?_; (with_reducible refine (impl_NetGet.calls kj4 t269 t277 t278 true _ A44.out).mono ?_); rintro e w47 ⟨v279, rfl, ho0, hb⟩; refine ⟨_, rfl, ?_⟩; have HO280 := Aside0.mk (Kd.R_lower (Kd.R_new' ho0 (Kd.R_lt (nr_ HO_269001.out))) (below_size (ne_ HB.out))); replace HO_269001 := Aside0.mk (Kd.R_elder' (nr_ HO_269001.out) (Kd.R_base ho0) hb); replace BK268 := kb_ BK268 hb; replace HB := kB_ HB hb; (try clear hb); (try clear hb2); (try clear hk); (try clear hi); (try clear ho0)) | ((with_reducible refine gate_dst (N := 5) rfl ?_); refine bx_ 5 #[.int .i64 0, .slice none 0 0] 25 ?_; intro gb282 hg w48 hbox hb; have BK282 := Aside0.mk (hbox); have GW282 := Aside0.mk (zs_ hg (ne_ HB.out)); have GE282 := Aside0.mk (zs_ hg (ne_ HB.out)); have NB268_282 := Aside0.mk (nl_ BK268.out hg); have NB282_268 := Aside0.mk (nm_ BK268.out hg); replace HO_269001 := kR_ HO_269001 hb; replace HO280 := kR_ HO280 hb; replace BK268 := kb_ BK268 hb; replace HB := kB_ HB hb; clear hb hbox hg; have hnb49 := NB282_268.out; have hnc49 := NB268_282.out; obtain ⟨hcz50_0, hcz50_1, hfz50_0, hfz50_1⟩ := cz2_ BK282.out; obtain ⟨Ao51, co51, eo51⟩ := Kd.R_slice HO280.out; subst eo51; obtain ⟨hcz52_0, hcz52_1, hfz52_0, hfz52_1⟩ := cz2_ BK268.out) | (go_at_call 13; (with_reducible refine (laws_wkNet.calls kj4 t277 _ _ t278 t264 _ _ t265 t283 _ ?side1 ?side2 ?side3 ?side4 A46.out).mono ?_); (case side1 => refine (rR3 (e := 54) (base := w.heap.size) (ok := fun k_ => (True ∧ some k_ ≠ (.slice Ao9 t265.length co9 : Value).ownBlock)) (n := t278.length) (c := co51) ?_).2.2; exact (by (with_reducible repeat (first | apply Kd.R_alloc | apply Kd.R_drewN | apply Kd.R_drew)); exact (Kd.R_mono (rf2_ (Kd.R_types HO280.out BK282.out (by decide))) (fun _ h_ => h_.1)))); (case side2 => exact (rR3 HO280.out).2.1); (case side3 => refine (rR3 (e := 54) (base := w.heap.size) (ok := fun k_ => (True ∧ some k_ ≠ (.slice Ao51 t278.length co51 : Value).ownBlock)) (n := t265.length) (c := co9) ?_).2.2; exact (by (with_reducible repeat (first | apply Kd.R_alloc | apply Kd.R_drewN | apply Kd.R_drew)); exact (Kd.R_mono (rf2_ (Kd.R_types HO_269001.out BK282.out (by decide))) (fun _ h_ => h_.1)))); (case side4 => exact (rR3 HO_269001.out).2.1); rintro e w53 ⟨rfl, hb⟩; replace HO_269001 := Aside0.mk (Kd.R_below (by (with_reducible repeat (first | apply Kd.R_alloc | apply Kd.R_drewN | apply Kd.R_drew)); exact (Kd.R_mono (rf2_ (Kd.R_types HO_269001.out BK282.out (by decide))) (fun _ h_ => h_.1))) hb); replace HO280 := Aside0.mk (Kd.R_below (by (with_reducible repeat (first | apply Kd.R_alloc | apply Kd.R_drewN | apply Kd.R_drew)); exact (Kd.R_mono (rf2_ (Kd.R_types HO280.out BK282.out (by decide))) (fun _ h_ => h_.1))) hb); replace BK268 := kf_ BK268 hb; replace BK282 := Aside0.mk (blk_below (g := gb282) (o := .cells #[.int .i64 t277, .slice Ao51 t278.length co51] 25 (0, 0)) (np_ BK282.out) hb); replace HB := kB_ HB hb; (try clear hb); (try clear hb2); (try clear hk); (try clear hi)))
     go_ret
     exact ⟨nw_, ne_ HB.out⟩
    subst c26
    rw [if_pos rfl] at H
    replace H := Option.bind_eq_some_iff.mp H
    obtain ⟨t273, A270, H⟩ := H
    try dsimp only at H
    have A27 := Aside0.mk A270
    clear A270
    by_cases c28 : t269.toList = t273.toList
    rotate_left
    ·rw [if_neg c28] at H
     have c28b0 : (t269.toList == t273.toList) = false := beq_eq_false_iff_ne.mpr c28
     have c28b1 : (t269.toList != t273.toList) = true := bne_iff_ne.mpr c28
     obtain rfl := Option.some.inj H
     try go_wp2
     replace HO_269001 := Aside0.mk (Kd.R_drew HO_269001.out)
     replace BK268 := Aside0.mk (blk_drew BK268.out)
     replace HB := Aside0.mk (below_drew1 HB.out)
     refine start_ (n := 17) (S := fun w' => w'.cell? ⟨gb268, 0, none⟩ = some (.int .i64 t264) ∧ w'.cell? ⟨gb268, 1, none⟩ = some (.slice Ao9 t265.length co9)) (ds := []) z3_16 (by kernel_rfl) rfl rfl ⟨ct_ BK268.out 0, ct_ BK268.out 1⟩ (fun hHeld => ?_); refine with_tabW laws_FnNetPut.tab6 laws_FnNetPut.bits6 (fun HT_ HW_ => ?_)
     generalize wc.drew = w42 at HO_269001 BK268 HB hHeld ⊢
     refine pu_ 0 29 z3_17 HT_.out ?_
     refine tk_ 1 30 z3_18 HT_.out HW_.out hHeld ?_
     refine one_ (i := 2) (N := some 31) z3_19 rfl rfl (one_of HT_.out (by kernel_rfl)) (by decide) (fun K hK => ?_)
     refine go_ Tryd.func9 #[.agg #[.int .i64 t264, .slice Ao9 t265.length co9]] ?_
     with_reducible refine (spec_NetPut.calls kj4 t264 _ _ t265 t273 _ ?side1 ?side2 A27.out).mono ?_
     (case side1 => exact nc_ (rR3 HO_269001.out).2.2)
     (case side2 => exact (rR3 HO_269001.out).2.1)
     rintro e w43 ⟨rfl, hb⟩
     refine ⟨_, rfl, ?_⟩
     replace HO_269001 := kR_ HO_269001 hb
     replace BK268 := kb_ BK268 hb
     replace HB := kB_ HB hb
     (try clear hb)
     (try clear hb2)
     (try clear hk)
     (try clear hi)
     refine hK.out _ _ ⟨ct_ BK268.out 0, ct_ BK268.out 1⟩ (fun hHeld => ?_)
     clear hK K
     refine nm1_ (some 31) ?_
     refine pu_ 3 32 z3_20 HT_.out ?_
     refine pu_ 4 33 z3_21 HT_.out ?_
     refine un_ 5 34 z3_22 HT_.out ?_
     refine un_ 6 35 (bm_ 17 127) HT_.out ?_
     refine un_ 7 36 z3_24 HT_.out ?_
     refine un_ 8 37 z3_25 HT_.out ?_
     refine un_ 9 38 z3_26 HT_.out ?_
     refine pu_ 10 39 z3_27 HT_.out ?_
     refine pu_ 11 40 z3_28 HT_.out ?_
     refine un_ 12 41 z3_29 HT_.out ?_
     refine un_ 13 42 z3_30 HT_.out ?_
     refine un_ 14 43 z3_31 HT_.out ?_
     refine pu_ 15 44 z3_32 HT_.out ?_
     refine pu_ 16 2 z3_33 HT_.out ?_
     refine done_ (done_of HT_.out (by kernel_rfl)) ?_
     try go_wp2
     go_ret
     exact ⟨nw_, ne_ HB.out⟩
    rw [if_pos c28] at H
    have c28b0 : (t269.toList == t273.toList) = true := beq_iff_eq.mpr c28
    have c28b1 : (t269.toList != t273.toList) = false := bne_eq_false_iff_eq.mpr c28
    clear c28
    replace H := Option.bind_eq_some_iff.mp H
    obtain ⟨t274, A290, H⟩ := H
    try dsimp only at H
    have A29 := Aside0.mk A290
    clear A290
    replace H := Option.bind_eq_some_iff.mp H
    obtain ⟨t275, A300, H⟩ := H
    replace H : (if (t274 == t275) = true then ((impl_NetOk.f t264 t265).bind fun t276 => (some (!t276))) else (some false)) = some r := H
    have A30 := Aside0.mk A300
    clear A300
    by_cases c31 : (t274 == t275) = true
    rotate_left
    ·rw [if_neg c31] at H
     have c31b0 : (t274 == t275) = false := by simpa using c31
     (try (have c31b1 : decide (t274 = t275) = false := by simpa using c31))
     (try (have c31b2 : (t274 == t275) = false := by simpa using c31))
     (try (have c31b3 : ¬ (t274 = t275) := by simpa using c31))
     clear c31
     obtain rfl := Option.some.inj H
     try go_wp2
     replace HO_269001 := Aside0.mk (Kd.R_drew HO_269001.out)
     replace BK268 := Aside0.mk (blk_drew BK268.out)
     replace HB := Aside0.mk (below_drew1 HB.out)
     refine start_ (n := 17) (S := fun w' => w'.cell? ⟨gb268, 0, none⟩ = some (.int .i64 t264) ∧ w'.cell? ⟨gb268, 1, none⟩ = some (.slice Ao9 t265.length co9)) (ds := []) z3_16 (by kernel_rfl) rfl rfl ⟨ct_ BK268.out 0, ct_ BK268.out 1⟩ (fun hHeld => ?_); refine with_tabW laws_FnNetPut.tab6 laws_FnNetPut.bits6 (fun HT_ HW_ => ?_)
     generalize wc.drew = w38 at HO_269001 BK268 HB hHeld ⊢
     refine pu_ 0 29 z3_17 HT_.out ?_
     refine tk_ 1 30 z3_18 HT_.out HW_.out hHeld ?_
     refine one_ (i := 2) (N := some 31) z3_19 rfl rfl (one_of HT_.out (by kernel_rfl)) (by decide) (fun K hK => ?_)
     refine go_ Tryd.func9 #[.agg #[.int .i64 t264, .slice Ao9 t265.length co9]] ?_
     with_reducible refine (spec_NetPut.calls kj4 t264 _ _ t265 t273 _ ?side1 ?side2 A27.out).mono ?_
     (case side1 => exact nc_ (rR3 HO_269001.out).2.2)
     (case side2 => exact (rR3 HO_269001.out).2.1)
     rintro e w39 ⟨rfl, hb⟩
     refine ⟨_, rfl, ?_⟩
     replace HO_269001 := kR_ HO_269001 hb
     replace BK268 := kb_ BK268 hb
     replace HB := kB_ HB hb
     (try clear hb)
     (try clear hb2)
     (try clear hk)
     (try clear hi)
     refine hK.out _ _ ⟨ct_ BK268.out 0, ct_ BK268.out 1⟩ (fun hHeld => ?_)
     clear hK K
     refine nm1_ (some 31) ?_
     refine pu_ 3 32 z3_20 HT_.out ?_
     refine pu_ 4 33 z3_21 HT_.out ?_
     refine tk_ 5 34 z3_22 HT_.out HW_.out hHeld ?_
     refine tk_ 7 36 z3_23 HT_.out HW_.out hHeld ?_
     refine one_ (i := 6) (N := some 35) z3_24 rfl rfl (one_of HT_.out (by kernel_rfl)) (by decide) (fun K hK => ?_)
     refine go_ Tryd.func10 #[.agg #[.int .i64 t264, .slice Ao9 t265.length co9]] ?_
     with_reducible refine (impl_NetOk.calls t264 _ _ t265 t274 _ ?side1 ?side2 A29.out).mono ?_
     (case side1 => exact nc_ (rR3 HO_269001.out).2.2)
     (case side2 => exact (rR3 HO_269001.out).2.1)
     rintro e w40 ⟨rfl, hb⟩
     refine ⟨_, rfl, ?_⟩
     replace HO_269001 := kR_ HO_269001 hb
     replace BK268 := kb_ BK268 hb
     replace HB := kB_ HB hb
     (try clear hb)
     (try clear hb2)
     (try clear hk)
     (try clear hi)
     refine hK.out _ _ ⟨ct_ BK268.out 0, ct_ BK268.out 1⟩ (fun hHeld => ?_)
     clear hK K
     refine nm1_ (some 35) ?_
     refine one_ (i := 8) (N := some 37) z3_25 rfl rfl (one_of HT_.out (by kernel_rfl)) (by decide) (fun K hK => ?_)
     refine go_ Tryd.func11 #[.agg #[.int .i64 t264, .slice Ao9 t265.length co9]] ?_
     with_reducible refine (spec_NetOk.calls kj4 t264 _ _ t265 t275 _ ?side1 ?side2 A30.out).mono ?_
     (case side1 => exact nc_ (rR3 HO_269001.out).2.2)
     (case side2 => exact (rR3 HO_269001.out).2.1)
     rintro e w41 ⟨rfl, hb⟩
     refine ⟨_, rfl, ?_⟩
     replace HO_269001 := kR_ HO_269001 hb
     replace BK268 := kb_ BK268 hb
     replace HB := kB_ HB hb
     (try clear hb)
     (try clear hb2)
     (try clear hk)
     (try clear hi)
     refine hK.out _ _ ⟨ct_ BK268.out 0, ct_ BK268.out 1⟩ (fun hHeld => ?_)
     clear hK K
     refine nm1_ (some 37) ?_
     refine pu_ 9 38 z3_26 HT_.out ?_
     refine pu_ 10 39 z3_27 HT_.out ?_
     refine pu_ 11 40 z3_28 HT_.out ?_
     refine un_ 12 41 z3_29 HT_.out ?_
     refine un_ 13 42 z3_30 HT_.out ?_
     refine un_ 14 43 z3_31 HT_.out ?_
     refine pu_ 15 44 z3_32 HT_.out ?_
     refine pu_ 16 2 z3_33 HT_.out ?_
     refine done_ (done_of HT_.out (by kernel_rfl)) ?_
     try go_wp2
     go_ret
     exact ⟨nw_, ne_ HB.out⟩
    rw [if_pos c31] at H
    have c31b0 : (t274 == t275) = true := c31
    (try (have c31b1 : decide (t274 = t275) = true := by simpa using c31))
    (try (have c31b2 : (t274 == t275) = true := by simpa using c31))
    clear c31
    replace H := Option.bind_eq_some_iff.mp H
    obtain ⟨t276, A320, H⟩ := H
    replace H : (some (!t276)) = some r := H
    have A32 := Aside0.mk A320
    clear A320
    obtain rfl := Option.some.inj H
    try go_wp2
    replace HO_269001 := Aside0.mk (Kd.R_drew HO_269001.out)
    replace BK268 := Aside0.mk (blk_drew BK268.out)
    replace HB := Aside0.mk (below_drew1 HB.out)
    refine start_ (n := 17) (S := fun w' => w'.cell? ⟨gb268, 0, none⟩ = some (.int .i64 t264) ∧ w'.cell? ⟨gb268, 1, none⟩ = some (.slice Ao9 t265.length co9)) (ds := []) z3_16 (by kernel_rfl) rfl rfl ⟨ct_ BK268.out 0, ct_ BK268.out 1⟩ (fun hHeld => ?_); refine with_tabW laws_FnNetPut.tab6 laws_FnNetPut.bits6 (fun HT_ HW_ => ?_)
    generalize wc.drew = w33 at HO_269001 BK268 HB hHeld ⊢
    refine pu_ 0 29 z3_17 HT_.out ?_
    refine tk_ 1 30 z3_18 HT_.out HW_.out hHeld ?_
    refine one_ (i := 2) (N := some 31) z3_19 rfl rfl (one_of HT_.out (by kernel_rfl)) (by decide) (fun K hK => ?_)
    refine go_ Tryd.func9 #[.agg #[.int .i64 t264, .slice Ao9 t265.length co9]] ?_
    with_reducible refine (spec_NetPut.calls kj4 t264 _ _ t265 t273 _ ?side1 ?side2 A27.out).mono ?_
    (case side1 => exact nc_ (rR3 HO_269001.out).2.2)
    (case side2 => exact (rR3 HO_269001.out).2.1)
    rintro e w34 ⟨rfl, hb⟩
    refine ⟨_, rfl, ?_⟩
    replace HO_269001 := kR_ HO_269001 hb
    replace BK268 := kb_ BK268 hb
    replace HB := kB_ HB hb
    (try clear hb)
    (try clear hb2)
    (try clear hk)
    (try clear hi)
    refine hK.out _ _ ⟨ct_ BK268.out 0, ct_ BK268.out 1⟩ (fun hHeld => ?_)
    clear hK K
    refine nm1_ (some 31) ?_
    refine pu_ 3 32 z3_20 HT_.out ?_
    refine pu_ 4 33 z3_21 HT_.out ?_
    refine tk_ 5 34 z3_22 HT_.out HW_.out hHeld ?_
    refine tk_ 7 36 z3_23 HT_.out HW_.out hHeld ?_
    refine one_ (i := 6) (N := some 35) z3_24 rfl rfl (one_of HT_.out (by kernel_rfl)) (by decide) (fun K hK => ?_)
    refine go_ Tryd.func10 #[.agg #[.int .i64 t264, .slice Ao9 t265.length co9]] ?_
    with_reducible refine (impl_NetOk.calls t264 _ _ t265 t274 _ ?side1 ?side2 A29.out).mono ?_
    (case side1 => exact nc_ (rR3 HO_269001.out).2.2)
    (case side2 => exact (rR3 HO_269001.out).2.1)
    rintro e w35 ⟨rfl, hb⟩
    refine ⟨_, rfl, ?_⟩
    replace HO_269001 := kR_ HO_269001 hb
    replace BK268 := kb_ BK268 hb
    replace HB := kB_ HB hb
    (try clear hb)
    (try clear hb2)
    (try clear hk)
    (try clear hi)
    refine hK.out _ _ ⟨ct_ BK268.out 0, ct_ BK268.out 1⟩ (fun hHeld => ?_)
    clear hK K
    refine nm1_ (some 35) ?_
    refine one_ (i := 8) (N := some 37) z3_25 rfl rfl (one_of HT_.out (by kernel_rfl)) (by decide) (fun K hK => ?_)
    refine go_ Tryd.func11 #[.agg #[.int .i64 t264, .slice Ao9 t265.length co9]] ?_
    with_reducible refine (spec_NetOk.calls kj4 t264 _ _ t265 t275 _ ?side1 ?side2 A30.out).mono ?_
    (case side1 => exact nc_ (rR3 HO_269001.out).2.2)
    (case side2 => exact (rR3 HO_269001.out).2.1)
    rintro e w36 ⟨rfl, hb⟩
    refine ⟨_, rfl, ?_⟩
    replace HO_269001 := kR_ HO_269001 hb
    replace BK268 := kb_ BK268 hb
    replace HB := kB_ HB hb
    (try clear hb)
    (try clear hb2)
    (try clear hk)
    (try clear hi)
    refine hK.out _ _ ⟨ct_ BK268.out 0, ct_ BK268.out 1⟩ (fun hHeld => ?_)
    clear hK K
    refine nm1_ (some 37) ?_
    refine pu_ 9 38 z3_26 HT_.out ?_
    refine pu_ 10 39 z3_27 HT_.out ?_
    refine pu_ 11 40 z3_28 HT_.out ?_
    refine tk_ 12 41 z3_29 HT_.out HW_.out hHeld ?_
    refine one_ (i := 13) (N := some 42) z3_30 rfl rfl (one_of HT_.out (by kernel_rfl)) (by decide) (fun K hK => ?_)
    refine go_ Tryd.func10 #[.agg #[.int .i64 t264, .slice Ao9 t265.length co9]] ?_
    with_reducible refine (impl_NetOk.calls t264 _ _ t265 t276 _ ?side1 ?side2 A32.out).mono ?_
    (case side1 => exact nc_ (rR3 HO_269001.out).2.2)
    (case side2 => exact (rR3 HO_269001.out).2.1)
    rintro e w37 ⟨rfl, hb⟩
    refine ⟨_, rfl, ?_⟩
    replace HO_269001 := kR_ HO_269001 hb
    replace BK268 := kb_ BK268 hb
    replace HB := kB_ HB hb
    (try clear hb)
    (try clear hb2)
    (try clear hk)
    (try clear hi)
    refine hK.out _ _ ⟨ct_ BK268.out 0, ct_ BK268.out 1⟩ (fun hHeld => ?_)
    clear hK K
    refine nm1_ (some 42) ?_
    refine pu_ 14 43 z3_31 HT_.out ?_
    refine pu_ 15 44 z3_32 HT_.out ?_
    refine pu_ 16 2 z3_33 HT_.out ?_
    refine done_ (done_of HT_.out (by kernel_rfl)) ?_
    try go_wp2
    go_ret
    exact ⟨nw_, ne_ HB.out⟩
/-- THE ONE PURE STATEMENT of laws_FnNetPut: yours. -/
def laws_FnNetPut.Pure : Prop := ∀ (l0 : List Int), l0.length ≤ maxLen → l0.length * 1 ≤ 140737488351232 → (∀ x ∈ l0, (Lit.int .u8 x).wf = true) → ∃ k, laws_FnNetPut.f k l0 = some true
theorem laws_FnNetPut.walk (P : laws_FnNetPut.Pure) (a0 : Option Addr) (len0 cap0 : Nat) (z0 : List Int) (w : World) (w0 : (a0 = none ∧ len0 = 0 ∧ cap0 = 0 ∧ z0 = []) ∨ ∃ x, a0 = some x ∧ len0 ≤ cap0 ∧ cap0 ≤ maxLen ∧ z0.length = cap0 ∧ (∀ i, i < z0.length → w.cell? (x.add i) = some (.int .u8 (z0.getD i 0))) ∧ ∀ n ∈ z0, (Lit.int .u8 n).wf = true) (y0 : len0 * 1 ≤ 140737488351232) (hV : Aside0 (VarsOk w)) :
    Calls Tryd.prog 3 #[.slice a0 len0 cap0] w fun e w' => e = .returned (.bool true) ∧ Below w.heap.size w w' := by
  obtain ⟨l0, rfl, hr0, hm0, hw0, hc0⟩ := ReadsInt.ofRowC w0
  obtain ⟨k, h⟩ := P l0 hm0 y0 hw0
  refine (laws_FnNetPut.calls k _ _ l0 true w (Kd.C_of_reads (d := (0 : Int)) (h1 := fun _ => rfl) hr0) hc0 h).mono ?_
  rintro e w' ⟨rfl, hd⟩
  exact ⟨rfl, hd⟩

end Go.Proofs.YtppjelkljihdoaaDoor.Print
