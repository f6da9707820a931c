-- Made by this session's own program (wip/patch_print.py, over the kit's print). Lean checks it.
import Derived.Test.YtahcomglicodlaaPrint0
import Derived.Test.YtahcomglicodlaaPrintF4
import Derived.Test.YtahcomglicodlaaPrintF5
import Derived.Test.YtahcomglicodlaaPrintF6
namespace Go.Proofs.Ytahcomglicodlaa.Print
open Go.RowKit Go.Proofs.YtahcomglicodlaaW.PrintWords Go.Proofs.YtahcomglicodlaaW.PrintLast Go.Proofs.YtahcomglicodlaaW.PrintMore Go.Proofs.YtahcomglicodlaaX
attribute [local go_sem] max2_int min2_int max_two min_two max_three min_three max_four min_four   -- for this text's walks alone
set_option linter.unusedVariables false
set_option linter.unusedSimpArgs false

abbrev z3_0 := bm_ 11 0
abbrev z3_1 := bm_ 11 2
abbrev z3_2 := bm_ 11 6
abbrev z3_3 := bm_ 11 14
abbrev z3_4 := bm_ 11 46
abbrev z3_5 := bm_ 11 110
abbrev z3_6 := bm_ 11 238
abbrev z3_7 := bm_ 11 494
abbrev z3_8 := bm_ 11 495
abbrev z3_9 := bm_ 11 511
abbrev z3_10 := bm_ 11 1023
abbrev z3_11 := bm_ 11 2047
abbrev z3_12 := bm_ 40 0
abbrev z3_13 := bm_ 40 2
abbrev z3_14 := bm_ 40 3
abbrev z3_15 := bm_ 40 7
abbrev z3_16 := bm_ 40 15
abbrev z3_17 := bm_ 40 31
abbrev z3_18 := bm_ 40 159
abbrev z3_19 := bm_ 40 671
abbrev z3_20 := bm_ 40 1695
abbrev z3_21 := bm_ 40 3743
abbrev z3_22 := bm_ 40 3775
abbrev z3_23 := bm_ 40 7871
abbrev z3_24 := bm_ 40 16383
abbrev z3_25 := bm_ 40 7935
abbrev z3_26 := bm_ 40 16063
abbrev z3_27 := bm_ 40 8191
abbrev z3_28 := bm_ 40 16127
abbrev z3_29 := bm_ 40 32767
abbrev z3_30 := bm_ 40 65535
abbrev z3_31 := bm_ 40 131071
abbrev z3_32 := bm_ 40 262143
abbrev z3_33 := bm_ 40 524287
abbrev z3_34 := bm_ 40 1048575
abbrev z3_35 := bm_ 40 2097151
abbrev z3_36 := bm_ 40 4194303
abbrev z3_37 := bm_ 40 8388607
abbrev z3_38 := bm_ 40 16777215
abbrev z3_39 := bm_ 40 33554431
abbrev z3_40 := bm_ 40 67108863
abbrev z3_41 := bm_ 40 134217727
abbrev z3_42 := bm_ 40 268435455
abbrev z3_43 := bm_ 40 536870911
abbrev z3_44 := bm_ 40 1073741823
abbrev z3_45 := bm_ 40 2147483647
abbrev z3_46 := bm_ 40 4294967295
abbrev z3_47 := bm_ 40 8589934591
abbrev z3_48 := bm_ 40 17179869183
abbrev z3_49 := bm_ 40 34359738367
abbrev z3_50 := bm_ 40 68719476735
abbrev z3_51 := bm_ 40 137438953471
abbrev z3_52 := bm_ 40 274877906943
abbrev z3_53 := bm_ 40 549755813887
abbrev z3_54 := bm_ 40 1099511627775
abbrev z3_55 := bm_ 40 1572863
abbrev z3_56 := bm_ 40 3670015
abbrev z3_57 := bm_ 40 7864319
abbrev z3_58 := bm_ 40 16252927
abbrev z3_59 := bm_ 40 284688383
abbrev z3_60 := bm_ 40 1358430207
abbrev z3_61 := bm_ 40 3505913855
abbrev z3_62 := bm_ 40 7800881151
abbrev z3_63 := bm_ 40 16390815743
abbrev z3_64 := bm_ 40 16391340031
abbrev z3_65 := bm_ 40 16408117247
abbrev z3_66 := bm_ 40 16441671679
abbrev z3_67 := bm_ 40 16508780543
abbrev z3_68 := bm_ 40 16642998271
abbrev rA3 := @Kd.R_alloc
abbrev rN3 := @Kd.R_drewN
abbrev rD3 := @Kd.R_drew
abbrev cA3 := @Kd.C_alloc
abbrev cN3 := @Kd.C_drewN
abbrev cD3 := @Kd.C_drew
abbrev eZ3 := @below_size
abbrev rB3 := @Kd.R_below
abbrev rR3 := @Kd.R_reads'
/-! ### laws_FnTurnsOk: function 3 -/
mutual
def laws_FnTurnsOk.j0 : Nat → List (S31) → Bool → Bool → Int → List (S33) → Option (Bool)
  | 0, _, _, _, _, _ => none
  | k + 1, x4, x5, x27, x270000, x270001 => if x27 = true then ((spec_TurnsOk.f k x270000 x270001 x4).bind fun t272 => (some (x5 == t272))) else (laws_FnTurnsOk.l0 k x4 0 x270000 x270001)
def laws_FnTurnsOk.l0 : Nat → List (S31) → Int → Int → List (S33) → Option (Bool)
  | 0, _, _, _, _ => none
  | k + 1, x4, x6, x270000, x270001 => if x6 < (x4.length : Int) then ((some (([] : List (S31)) : List (S31))).bind fun y274 => (if 0 ≤ x6 then (if x6 ≤ (x4.length : Int) then ((some (x4.take (x6 : Int).toNat : List (S31))).bind fun y277 => (if y274.length + y277.length < 5864062014805 then ((some (y274 ++ y277 : List (S31))).bind fun y281 => (if 0 ≤ (wrap64 (x6 + 1)) then (if (wrap64 (x6 + 1)) ≤ (x4.length : Int) then ((some (x4.drop ((wrap64 (x6 + 1)) : Int).toNat : List (S31))).bind fun y284 => (if y281.length + y284.length < 5864062014805 then ((impl_TurnsOk.f k x270000 x270001 (y281 ++ y284)).bind fun t291 => (if t291 = true then ((some (([] : List (S31)) : List (S31))).bind fun y292 => (if y292.length + x4.length < 5864062014805 then ((some (y292 ++ x4 : List (S31))).bind fun y295 => ((some (([(⟨(rd_T31 x4 x6).f0, (rd_T31 x4 x6).f1, (rd_T31 x4 x6).f2⟩ : S31)] : List (S31)) : List (S31))).bind fun y299 => (if y295.length + y299.length < 5864062014805 then ((impl_TurnsOk.f k x270000 x270001 (y295 ++ y299)).bind fun t305 => (if t305 = true then (some false) else (if 0 ≤ ((rd_T31 x4 x6).f0) then (if ((rd_T31 x4 x6).f0) < (x270001.length : Int) then (if 0 ≤ ((rd_T31 x4 x6).f1) then (if ((rd_T31 x4 x6).f1) < (x270001.length : Int) then (if ((rd_T33 x270001 ((rd_T31 x4 x6).f0)).f1) = ((rd_T33 x270001 ((rd_T31 x4 x6).f1)).f0) then (laws_FnTurnsOk.l0 k x4 (wrap64 (x6 + 1)) x270000 x270001) else (some false)) else (none)) else (none)) else (none)) else (none)))) else (none)))) else (none))) else (some false))) else (none))) else (none)) else (none))) else (none))) else (none)) else (none))) else ((impl_TurnsOk.f k x270000 x270001 ([] : List (S31))).bind fun t273 => (some t273))
end
def laws_FnTurnsOk.f (k : Nat) (l0 : List Int) : Option (Bool) := if (l0.length : Int) > 1048576 then (some true) else ((spec_DrawTurnsOk.f k l0).bind fun bt262 => ((impl_TurnsOk.f k bt262.1 bt262.2.1 bt262.2.2).bind fun t270 => ((spec_TurnsOk.f k bt262.1 bt262.2.1 bt262.2.2).bind fun t271 => (if (t270 != t271) = true then (laws_FnTurnsOk.j0 k bt262.2.2 t270 true bt262.1 bt262.2.1) else (laws_FnTurnsOk.j0 k bt262.2.2 t270 (!t270) bt262.1 bt262.2.1)))))
theorem laws_FnTurnsOk.mono_l : ∀ k, (∀ y0 y1 y2 y3 y4, LeO (laws_FnTurnsOk.j0 k y0 y1 y2 y3 y4) (laws_FnTurnsOk.j0 (k + 1) y0 y1 y2 y3 y4)) ∧ (∀ y0 y1 y2 y3, LeO (laws_FnTurnsOk.l0 k y0 y1 y2 y3) (laws_FnTurnsOk.l0 (k + 1) y0 y1 y2 y3))
  | 0 => ⟨fun _ _ _ _ _ r h => by simp [laws_FnTurnsOk.j0] at h, fun _ _ _ _ r h => by simp [laws_FnTurnsOk.l0] at h⟩
  | k + 1 => by
    obtain ⟨ih0, ih1⟩ := laws_FnTurnsOk.mono_l k
    refine ⟨?_, ?_⟩
    · intro y0 y1 y2 y3 y4
      unfold laws_FnTurnsOk.j0
      repeat' first | (with_reducible first | exact ih0 _ _ _ _ _ | exact ih1 _ _ _ _ | exact impl_TurnsOk.mono _ _ _ _ | exact spec_DrawTurnsOk.mono _ _ | exact spec_TurnsOk.mono _ _ _ _ | exact LeO.refl _ | exact LeO.none _ | refine LeO.ite ?_ ?_ | refine LeO.bind ?_ (fun _ => ?_)) | exact ih0 _ _ _ _ _ | exact ih1 _ _ _ _ | exact impl_TurnsOk.mono _ _ _ _ | exact spec_DrawTurnsOk.mono _ _ | exact spec_TurnsOk.mono _ _ _ _ | exact LeO.none _ | refine LeO.ite ?_ ?_ | refine LeO.bind ?_ (fun _ => ?_)
    · intro y0 y1 y2 y3
      unfold laws_FnTurnsOk.l0
      repeat' first | (with_reducible first | exact ih0 _ _ _ _ _ | exact ih1 _ _ _ _ | exact impl_TurnsOk.mono _ _ _ _ | exact spec_DrawTurnsOk.mono _ _ | exact spec_TurnsOk.mono _ _ _ _ | exact LeO.refl _ | exact LeO.none _ | refine LeO.ite ?_ ?_ | refine LeO.bind ?_ (fun _ => ?_)) | exact ih0 _ _ _ _ _ | exact ih1 _ _ _ _ | exact impl_TurnsOk.mono _ _ _ _ | exact spec_DrawTurnsOk.mono _ _ | exact spec_TurnsOk.mono _ _ _ _ | exact LeO.none _ | refine LeO.ite ?_ ?_ | refine LeO.bind ?_ (fun _ => ?_)
theorem laws_FnTurnsOk.mono : ∀ a0 k, LeO (laws_FnTurnsOk.f k a0) (laws_FnTurnsOk.f (k + 1) a0) := by
  intro a0 k
  obtain ⟨ih0, ih1⟩ := laws_FnTurnsOk.mono_l k
  unfold laws_FnTurnsOk.f
  repeat' first | (with_reducible first | exact ih0 _ _ _ _ _ | exact ih1 _ _ _ _ | exact impl_TurnsOk.mono _ _ _ _ | exact spec_DrawTurnsOk.mono _ _ | exact spec_TurnsOk.mono _ _ _ _ | exact LeO.refl _ | exact LeO.none _ | refine LeO.ite ?_ ?_ | refine LeO.bind ?_ (fun _ => ?_)) | exact ih0 _ _ _ _ _ | exact ih1 _ _ _ _ | exact impl_TurnsOk.mono _ _ _ _ | exact spec_DrawTurnsOk.mono _ _ | exact spec_TurnsOk.mono _ _ _ _ | exact LeO.none _ | refine LeO.ite ?_ ?_ | refine LeO.bind ?_ (fun _ => ?_)
def laws_FnTurnsOk.T10 : Bool × List (List Nat × List Nat) := (true, [([], []), ([], []), ([], []), ([1, 2], [1, 2]), ([0, 3], [0, 3]), ([], []), ([], []), ([6], [6]), ([5, 7], [5, 7]), ([4, 8, 4], [4, 8]), ([9, 9, 0, 1, 2, 3, 4, 5, 6, 7, 8, 9], [9])])
def laws_FnTurnsOk.B10 : List Nat := [0, 0, 0, 6, 15, 0, 0, 64, 224, 511, 1023]
theorem laws_FnTurnsOk.tab10 : rtab .any (opsOf Try.f3 10) = laws_FnTurnsOk.T10 := by kernel_rfl
theorem laws_FnTurnsOk.bits10 : waitsOk laws_FnTurnsOk.T10.2 laws_FnTurnsOk.B10 = true := by kernel_rfl
def laws_FnTurnsOk.T11 : Bool × List (List Nat × List Nat) := (true, [([], []), ([], []), ([0, 1], [0, 1]), ([2], [2]), ([3, 2], [3]), ([4], [4]), ([4], [4]), ([4], [4]), ([6, 7, 4, 4], [4, 6, 7]), ([4], [4]), ([4], [4]), ([9, 10, 4], [4, 9, 10]), ([11, 4], [4, 11]), ([12, 4], [4, 12]), ([8, 13, 8, 4], [4, 8, 13]), ([5, 14, 14, 4], [4, 5, 14]), ([4, 15], [4, 15]), ([16, 15], [16]), ([17], [17]), ([18, 17], [17, 18]), ([17], [17]), ([17], [17]), ([20, 21, 17], [17, 20, 21]), ([22, 17], [17, 22]), ([23, 17], [17, 23]), ([19, 24, 17], [17, 19, 24]), ([25, 17], [17, 25]), ([26, 17], [17, 26]), ([17], [17]), ([28, 17], [17, 28]), ([17], [17]), ([17], [17]), ([30, 31, 17], [17, 30, 31]), ([32, 17], [17, 32]), ([33, 17], [17, 33]), ([29, 34, 17], [17, 29, 34]), ([35, 17], [17, 35]), ([36, 17], [17, 36]), ([27, 37, 17], [17, 27, 37]), ([17, 38], [17, 38])])
def laws_FnTurnsOk.B11 : List Nat := [0, 0, 3, 7, 15, 31, 31, 31, 223, 31, 31, 1567, 3615, 7711, 16351, 32767, 65535, 131071, 262143, 524287, 262143, 262143, 3407871, 7602175, 15990783, 33554431, 67108863, 134217727, 262143, 268697599, 262143, 262143, 3221487615, 7516454911, 16106389503, 34091565055, 68451303423, 137170780159, 274877906943, 549755813887]
theorem laws_FnTurnsOk.tab11 : rtab .any (opsOf Try.f3 11) = laws_FnTurnsOk.T11 := by kernel_rfl
theorem laws_FnTurnsOk.bits11 : waitsOk laws_FnTurnsOk.T11.2 laws_FnTurnsOk.B11 = true := by kernel_rfl
set_option maxHeartbeats 200000000 in
set_option maxRecDepth 100000 in
theorem laws_FnTurnsOk.calls (k : Nat) (A0 : Option Addr) (c0 : Nat) (l0 : List Int) (r : Bool) (w : World) (hr0 : Kd.C (Kd.int .u8) w A0 l0.length l0) (hc0 : l0.length ≤ c0) (h : laws_FnTurnsOk.f k l0 = some r) :
    Calls Try.prog 3 #[.slice A0 l0.length c0] w fun e w' => e = .returned (.bool r) ∧ Below w.heap.size w w' := by
  have hu25 := Try.underlying25
  have hu31 := Try.underlying31
  have HR0 := Aside0.mk hr0
  have HC0 := Aside0.mk hc0
  clear hr0 hc0
  have HB := Aside0.mk (Below.refl w.heap.size w)
  have H : (if (l0.length : Int) > 1048576 then (some true) else ((spec_DrawTurnsOk.f k l0).bind fun bt262 => ((impl_TurnsOk.f k bt262.1 bt262.2.1 bt262.2.2).bind fun t270 => ((spec_TurnsOk.f k bt262.1 bt262.2.1 bt262.2.2).bind fun t271 => (if (t270 != t271) = true then (laws_FnTurnsOk.j0 k bt262.2.2 t270 true bt262.1 bt262.2.1) else (laws_FnTurnsOk.j0 k bt262.2.2 t270 (!t270) bt262.1 bt262.2.1)))))) = some r := h
  clear h
  by_cases c2 : (l0.length : Int) > 1048576
  ·rw [if_pos c2] at H
   have c2b0 : decide (1048576 < (l0.length : Int)) = true := decide_eq_true c2
   have c2b1 : decide (1048576 < l0.length) = true := decide_eq_true (by omega)
   clear c2
   obtain rfl := Option.some.inj H
   go_enter Try.func3, Try.ntmps3
   go_wp2
   go_ret
   exact ⟨nw_, ne_ HB.out⟩
  rw [if_neg c2] at H
  have c2b0 : decide (1048576 < (l0.length : Int)) = false := decide_eq_false c2
  have c2b1 : decide (1048576 < l0.length) = false := decide_eq_false (by omega)
  clear c2
  replace H := Option.bind_eq_some_iff.mp H
  obtain ⟨⟨t262, t263, t266⟩, A30, H⟩ := H
  try dsimp only at H
  have A3 := Aside0.mk A30
  clear A30
  replace H := Option.bind_eq_some_iff.mp H
  obtain ⟨t270, A40, H⟩ := H
  try dsimp only at H
  have A4 := Aside0.mk A40
  clear A40
  have HC5 := Aside0.mk H
  clear H
  go_enter Try.func3, Try.ntmps3
  go_upto_region 5 with (first | ((with_reducible refine gate_callee (f := 4) rfl ?_); refine gl_ (some 13) Try.func4 #[.slice A0 l0.length c0] ?_; (with_reducible refine (spec_DrawTurnsOk.calls k _ _ l0 t262 t263 t266 _ ?side1 ?side2 A3.out).mono ?_); (case side1 => repeat (first | exact HR0.out | (with_reducible refine cA3 ?_ _) | (with_reducible refine cN3 ?_ _) | (with_reducible refine cD3 ?_))); (case side2 => exact HC0.out); rintro e w6 ⟨v264, v267, rfl, ho0, ho1, hb⟩; refine ⟨_, rfl, ?_⟩; have HO265 := Aside0.mk (Kd.R_lower ho0 (eZ3 (ne_ HB.out))); have HO268 := Aside0.mk (Kd.R_lower ho1 (eZ3 (ne_ HB.out))); replace HB := kB_ HB hb; (try clear hb); (try clear hb2); (try clear hk); (try clear hi); (try clear ho0); (try clear ho1)) | ((with_reducible refine gate_dst (N := 3) rfl ?_); (try (refine gate_guard (by rfl) ?_; dsimp only)); refine bx_ 3 #[.int .i64 0, .slice none 0 0] 25 ?_; intro gb269 hg w7 hbox hb; have BK269 := Aside0.mk (hbox); have GW269 := Aside0.mk (zs_ hg (ne_ HB.out)); have GE269 := Aside0.mk (zs_ hg (ne_ HB.out)); replace HO265 := kR_ HO265 hb; replace HO268 := kR_ HO268 hb; replace HB := kB_ HB hb; clear hb hbox hg; obtain ⟨hcz8_0, hcz8_1, hfz8_0, hfz8_1⟩ := cz2_ BK269.out; obtain ⟨Ao9, co9, eo9⟩ := Kd.R_slice HO265.out; subst eo9; obtain ⟨Ao10, co10, eo10⟩ := Kd.R_slice HO268.out; subst eo10) | ((with_reducible refine gate_callee (f := 5) rfl ?_); refine gl_ (some 18) Try.func5 #[.agg #[.int .i64 t262, .slice Ao9 t263.length co9], .slice Ao10 t266.length co10] ?_; (with_reducible refine (impl_TurnsOk.calls k t262 _ _ t263 _ _ t266 t270 _ ?side1 ?side2 ?side3 ?side4 A4.out).mono ?_); (case side1 => refine (rR3 (e := 33) (base := w.heap.size) (ok := fun k_ => True) (n := t263.length) (c := co9) ?_).2.2; exact (by (with_reducible repeat (first | apply rA3 | apply rN3 | apply rD3)); exact (Kd.R_mono (rf2_ (Kd.R_types HO265.out BK269.out (by decide))) (fun _ h_ => h_.1)))); (case side2 => exact (rR3 HO265.out).2.1); (case side3 => refine (rR3 (e := 31) (base := w.heap.size) (ok := fun k_ => True) (n := t266.length) (c := co10) ?_).2.2; exact (by (with_reducible repeat (first | apply rA3 | apply rN3 | apply rD3)); exact (Kd.R_mono (rf2_ (Kd.R_types HO268.out BK269.out (by decide))) (fun _ h_ => h_.1)))); (case side4 => exact (rR3 HO268.out).2.1); rintro e w11 ⟨rfl, hb⟩; refine ⟨_, rfl, ?_⟩; replace HO265 := Aside0.mk (rB3 (by (with_reducible repeat (first | apply rA3 | apply rN3 | apply rD3)); exact (Kd.R_mono (rf2_ (Kd.R_types HO265.out BK269.out (by decide))) (fun _ h_ => h_.1))) hb); replace HO268 := Aside0.mk (rB3 (by (with_reducible repeat (first | apply rA3 | apply rN3 | apply rD3)); exact (Kd.R_mono (rf2_ (Kd.R_types HO268.out BK269.out (by decide))) (fun _ h_ => h_.1))) hb); replace BK269 := Aside0.mk (blk_below (g := gb269) (o := .cells #[.int .i64 t262, .slice Ao9 t263.length co9] 25 (0, 0)) (np_ BK269.out) hb); replace HB := kB_ HB hb; (try clear hb); (try clear hb2); (try clear hk); (try clear hi)))
  (try simp only [Act.put, List.setIfInBounds_toArray, List.set_cons_zero, List.set_cons_succ])
  go_cut [27] (fun v27 wc => ∃ (kq : Nat) (x27_4 : Bool), v27 = .bool x27_4 ∧ Aside0 (laws_FnTurnsOk.j0 kq t266 t270 x27_4 t262 t263 = some r) ∧ Aside0 (kq ≤ k) ∧ Aside0 (Kd.R k31 31 wc w.heap.size (fun _ => True) (.slice Ao10 t266.length co10) t266) ∧ Aside0 (Kd.R k33 33 wc w.heap.size (fun _ => True) (.slice Ao9 t263.length co9) t263) ∧ Aside0 (wc.heap[gb269]? = some (.cells #[.int .i64 t262, (.slice Ao9 t263.length co9)] 25 (0, 0))) ∧ Aside0 (Below w.heap.size w wc))
  case first =>
   have H := HC5.out
   clear HC5
   replace H := Option.bind_eq_some_iff.mp H
   obtain ⟨t271, A120, H⟩ := H
   try dsimp only at H
   have A12 := Aside0.mk A120
   clear A120
   by_cases c13 : (t270 != t271) = true
   rotate_left
   ·rw [if_neg c13] at H
    have c13b0 : (t270 != t271) = false := by simpa using c13
    (try (have c13b1 : decide (t270 = t271) = true := by simpa using c13))
    (try (have c13b2 : (t270 == t271) = true := by simpa using c13))
    clear c13
    (first | rw [c13b0] | (simp only [i64_w, i32_w]; rw [c13b0]) | skip)
    have H' := Aside0.mk H
    clear H
    obtain ⟨hcz16_0, hcz16_1, hfz16_0, hfz16_1⟩ := cz2_ BK269.out
    go_wp2_with (first | ((with_reducible refine gate_callee (f := 6) rfl ?_); refine gl_ (some 22) Try.func6 #[.agg #[.int .i64 t262, .slice Ao9 t263.length co9], .slice Ao10 t266.length co10] ?_; (with_reducible refine (spec_TurnsOk.calls k t262 _ _ t263 _ _ t266 t271 _ ?side1 ?side2 ?side3 ?side4 A12.out).mono ?_); (case side1 => exact nc_ (rR3 HO265.out).2.2); (case side2 => exact (rR3 HO265.out).2.1); (case side3 => exact nc_ (rR3 HO268.out).2.2); (case side4 => exact (rR3 HO268.out).2.1); rintro e w17 ⟨rfl, hb⟩; refine ⟨_, rfl, ?_⟩; replace HO265 := kR_ HO265 hb; replace HO268 := kR_ HO268 hb; replace BK269 := kb_ BK269 hb; replace HB := kB_ HB hb; (try clear hb); (try clear hb2); (try clear hk); (try clear hi)))
    go_meet
    case rel => exact ⟨_, (!t270), ns_, H', ⟨by first | omega | exact Nat.le_refl _⟩, ⟨nr_ HO268.out⟩, ⟨nr_ HO265.out⟩, ⟨nb_ BK269.out⟩, ⟨ne_ HB.out⟩⟩
   rw [if_pos c13] at H
   have c13b0 : (t270 != t271) = true := c13
   (try (have c13b1 : decide (t270 = t271) = false := by simpa using c13))
   (try (have c13b2 : (t270 == t271) = false := by simpa using c13))
   (try (have c13b3 : ¬ (t270 = t271) := by simpa using c13))
   clear c13
   (first | rw [c13b0] | (simp only [i64_w, i32_w]; rw [c13b0]) | skip)
   have H' := Aside0.mk H
   clear H
   obtain ⟨hcz14_0, hcz14_1, hfz14_0, hfz14_1⟩ := cz2_ BK269.out
   go_wp2_with (first | ((with_reducible refine gate_callee (f := 6) rfl ?_); refine gl_ (some 22) Try.func6 #[.agg #[.int .i64 t262, .slice Ao9 t263.length co9], .slice Ao10 t266.length co10] ?_; (with_reducible refine (spec_TurnsOk.calls k t262 _ _ t263 _ _ t266 t271 _ ?side1 ?side2 ?side3 ?side4 A12.out).mono ?_); (case side1 => exact nc_ (rR3 HO265.out).2.2); (case side2 => exact (rR3 HO265.out).2.1); (case side3 => exact nc_ (rR3 HO268.out).2.2); (case side4 => exact (rR3 HO268.out).2.1); rintro e w15 ⟨rfl, hb⟩; refine ⟨_, rfl, ?_⟩; replace HO265 := kR_ HO265 hb; replace HO268 := kR_ HO268 hb; replace BK269 := kb_ BK269 hb; replace HB := kB_ HB hb; (try clear hb); (try clear hb2); (try clear hk); (try clear hi)))
   go_meet
   case rel => exact ⟨_, (true), ns_, H', ⟨by first | omega | exact Nat.le_refl _⟩, ⟨nr_ HO268.out⟩, ⟨nr_ HO265.out⟩, ⟨nb_ BK269.out⟩, ⟨ne_ HB.out⟩⟩
  case rest =>
   clear HC5
   try clear c2
   try clear c2b0
   try clear c2b1
   try clear hcz8_0
   try clear hcz8_1
   try clear hfz8_0
   try clear hfz8_1
   obtain ⟨kq, x27_4, rfl, HA, HJ4, HO_4, HO_270001, BK269, HB⟩ := hcut
   cases kq with
   | zero => exact absurd HA.out (by simp [laws_FnTurnsOk.j0])
   | succ kj4 =>
    have H := HA.out
    clear HA
    simp only [laws_FnTurnsOk.j0] at H
    by_cases c18 : x27_4 = true
    ·subst c18
     rw [if_pos rfl] at H
     replace H := Option.bind_eq_some_iff.mp H
     obtain ⟨t272, A190, H⟩ := H
     replace H : (some (t270 == t272)) = some r := H
     have A19 := Aside0.mk A190
     clear A190
     obtain rfl := Option.some.inj H
     obtain ⟨hcz20_0, hcz20_1, hfz20_0, hfz20_1⟩ := cz2_ BK269.out
     go_wp2_with (first | ((with_reducible refine gate_callee (f := 6) rfl ?_); refine gl_ (some 31) Try.func6 #[.agg #[.int .i64 t262, .slice Ao9 t263.length co9], .slice Ao10 t266.length co10] ?_; (with_reducible refine (spec_TurnsOk.calls kj4 t262 _ _ t263 _ _ t266 t272 _ ?side1 ?side2 ?side3 ?side4 A19.out).mono ?_); (case side1 => exact nc_ (rR3 HO_270001.out).2.2); (case side2 => exact (rR3 HO_270001.out).2.1); (case side3 => exact nc_ (rR3 HO_4.out).2.2); (case side4 => exact (rR3 HO_4.out).2.1); rintro e w21 ⟨rfl, hb⟩; refine ⟨_, rfl, ?_⟩; replace HO_4 := kR_ HO_4 hb; replace HO_270001 := kR_ HO_270001 hb; replace BK269 := kb_ BK269 hb; replace HB := kB_ HB hb; (try clear hb); (try clear hb2); (try clear hk); (try clear hi)))
     go_ret
     exact ⟨nw_, ne_ HB.out⟩
    replace c18 := Bool.eq_false_iff.mpr c18
    subst c18
    have H1 : (laws_FnTurnsOk.l0 kj4 t266 0 t262 t263) = some r := by rw [if_neg (show ¬ (false = true) by decide)] at H; exact H
    clear H
    have H := H1
    clear H1
    have H' := Aside0.mk H
    clear H
    go_wp2
    go_loopg [6] kj4 (fun kq v6 w' => ∃ (x6_2 : Int), v6 = .int .i64 x6_2 ∧ Aside0 (laws_FnTurnsOk.l0 kq t266 x6_2 t262 t263 = some r) ∧ Aside0 (kq ≤ kj4) ∧ Aside0 (Kd.R k31 31 w' w.heap.size (fun _ => True) (.slice Ao10 t266.length co10) t266) ∧ Aside0 (Kd.R k33 33 w' w.heap.size (fun _ => True) (.slice Ao9 t263.length co9) t263) ∧ Aside0 (w'.heap[gb269]? = some (.cells #[.int .i64 t262, (.slice Ao9 t263.length co9)] 25 (0, 0))) ∧ Aside0 (Below w.heap.size w w'))
    case atStart => exact ⟨(0), ns_, H', ⟨Nat.le_refl _⟩, ⟨nr_ HO_4.out⟩, ⟨nr_ HO_270001.out⟩, ⟨nb_ BK269.out⟩, ⟨ne_ HB.out⟩⟩
    case round =>
     clear H'
     try clear c2
     try clear c2b0
     try clear c2b1
     try clear c18
     try clear hcz8_0
     try clear hcz8_1
     try clear hfz8_0
     try clear hfz8_1
     obtain ⟨x6_2, rfl, HA, HK2, HO_4, HO_270001, BK269, HB⟩ := hrel
     cases gk with
     | zero => exact absurd HA.out (by simp [laws_FnTurnsOk.l0])
     | succ k2 =>
      have H := HA.out
      clear HA
      simp only [laws_FnTurnsOk.l0] at H
      by_cases c22 : x6_2 < (t266.length : Int)
      rotate_left
      ·rw [if_neg c22] at H
       have c22b0 : decide (x6_2 < (t266.length : Int)) = false := decide_eq_false c22
       clear c22
       replace H := Option.bind_eq_some_iff.mp H
       obtain ⟨t273, A1110, H⟩ := H
       replace H : (some t273) = some r := H
       have A111 := Aside0.mk A1110
       clear A1110
       obtain rfl := Option.some.inj H
       obtain ⟨hcz112_0, hcz112_1, hfz112_0, hfz112_1⟩ := cz2_ BK269.out
       go_wp2_with (first | ((with_reducible refine gate_callee (f := 5) rfl ?_); refine gl_ (some 90) Try.func5 #[.agg #[.int .i64 t262, .slice Ao9 t263.length co9], .slice none 0 0] ?_; (refine (impl_TurnsOk.calls k2 t262 _ _ t263 _ _ ([] : List (S31)) t273 _ ?side1 ?side2 ?side3 ?side4 A111.out).mono ?_); (case side1 => exact nc_ (rR3 HO_270001.out).2.2); (case side2 => exact (rR3 HO_270001.out).2.1); (case side3 => exact Kd.C_nil _ _); (case side4 => exact Nat.le_refl _); rintro e w113 ⟨rfl, hb⟩; refine ⟨_, rfl, ?_⟩; replace HO_4 := kR_ HO_4 hb; replace HO_270001 := kR_ HO_270001 hb; replace BK269 := kb_ BK269 hb; replace HB := kB_ HB hb; (try clear hb); (try clear hb2); (try clear hk); (try clear hi)))
       go_ret
       exact ⟨nw_, ne_ HB.out⟩

      rw [if_pos c22] at H
      have c22b0 : decide (x6_2 < (t266.length : Int)) = true := decide_eq_true c22
      clear c22
      obtain ⟨y274, hy274⟩ : ∃ y_ : List (S31), y_ = (([] : List (S31))) := ⟨_, rfl⟩
      replace H : (if 0 ≤ x6_2 then (if x6_2 ≤ (t266.length : Int) then ((some (t266.take (x6_2 : Int).toNat : List (S31))).bind fun y277 => (if y274.length + y277.length < 5864062014805 then ((some (y274 ++ y277 : List (S31))).bind fun y281 => (if 0 ≤ (wrap64 (x6_2 + 1)) then (if (wrap64 (x6_2 + 1)) ≤ (t266.length : Int) then ((some (t266.drop ((wrap64 (x6_2 + 1)) : Int).toNat : List (S31))).bind fun y284 => (if y281.length + y284.length < 5864062014805 then ((impl_TurnsOk.f k2 t262 t263 (y281 ++ y284)).bind fun t291 => (if t291 = true then ((some (([] : List (S31)) : List (S31))).bind fun y292 => (if y292.length + t266.length < 5864062014805 then ((some (y292 ++ t266 : List (S31))).bind fun y295 => ((some (([(⟨(rd_T31 t266 x6_2).f0, (rd_T31 t266 x6_2).f1, (rd_T31 t266 x6_2).f2⟩ : S31)] : List (S31)) : List (S31))).bind fun y299 => (if y295.length + y299.length < 5864062014805 then ((impl_TurnsOk.f k2 t262 t263 (y295 ++ y299)).bind fun t305 => (if t305 = true then (some false) else (if 0 ≤ ((rd_T31 t266 x6_2).f0) then (if ((rd_T31 t266 x6_2).f0) < (t263.length : Int) then (if 0 ≤ ((rd_T31 t266 x6_2).f1) then (if ((rd_T31 t266 x6_2).f1) < (t263.length : Int) then (if ((rd_T33 t263 ((rd_T31 t266 x6_2).f0)).f1) = ((rd_T33 t263 ((rd_T31 t266 x6_2).f1)).f0) then (laws_FnTurnsOk.l0 k2 t266 (wrap64 (x6_2 + 1)) t262 t263) else (some false)) else (none)) else (none)) else (none)) else (none)))) else (none)))) else (none))) else (some false))) else (none))) else (none)) else (none))) else (none))) else (none)) else (none)) = some r := by first | (rw [hy274]; with_reducible exact H) | (have H2_ := (Option.bind_some _ _).symm.trans H; rw [hy274]; with_reducible exact H2_) | (have H2_ := (Option.bind_some _ _).symm.trans H; with_reducible exact H2_) | with_reducible exact H | (rw [hy274]; exact H) | exact H
      have Ny274 := Aside0.mk hy274
      clear hy274
      by_cases c23 : 0 ≤ x6_2
      rotate_left
      ·rw [if_neg c23] at H
       exact absurd H (by simp)
      rw [if_pos c23] at H
      have c23b0 := eq_true c23
      have c23b1 : decide (0 ≤ x6_2) = true := decide_eq_true c23
      clear c23
      by_cases c24 : x6_2 ≤ (t266.length : Int)
      rotate_left
      ·rw [if_neg c24] at H
       exact absurd H (by simp)
      rw [if_pos c24] at H
      have c24b0 := eq_true c24
      have c24b1 : decide (x6_2 ≤ (t266.length : Int)) = true := decide_eq_true c24
      clear c24
      obtain ⟨y277, hy277⟩ : ∃ y_ : List (S31), y_ = (t266.take (x6_2 : Int).toNat) := ⟨_, rfl⟩
      replace H : (if y274.length + y277.length < 5864062014805 then ((some (y274 ++ y277 : List (S31))).bind fun y281 => (if 0 ≤ (wrap64 (x6_2 + 1)) then (if (wrap64 (x6_2 + 1)) ≤ (t266.length : Int) then ((some (t266.drop ((wrap64 (x6_2 + 1)) : Int).toNat : List (S31))).bind fun y284 => (if y281.length + y284.length < 5864062014805 then ((impl_TurnsOk.f k2 t262 t263 (y281 ++ y284)).bind fun t291 => (if t291 = true then ((some (([] : List (S31)) : List (S31))).bind fun y292 => (if y292.length + t266.length < 5864062014805 then ((some (y292 ++ t266 : List (S31))).bind fun y295 => ((some (([(⟨(rd_T31 t266 x6_2).f0, (rd_T31 t266 x6_2).f1, (rd_T31 t266 x6_2).f2⟩ : S31)] : List (S31)) : List (S31))).bind fun y299 => (if y295.length + y299.length < 5864062014805 then ((impl_TurnsOk.f k2 t262 t263 (y295 ++ y299)).bind fun t305 => (if t305 = true then (some false) else (if 0 ≤ ((rd_T31 t266 x6_2).f0) then (if ((rd_T31 t266 x6_2).f0) < (t263.length : Int) then (if 0 ≤ ((rd_T31 t266 x6_2).f1) then (if ((rd_T31 t266 x6_2).f1) < (t263.length : Int) then (if ((rd_T33 t263 ((rd_T31 t266 x6_2).f0)).f1) = ((rd_T33 t263 ((rd_T31 t266 x6_2).f1)).f0) then (laws_FnTurnsOk.l0 k2 t266 (wrap64 (x6_2 + 1)) t262 t263) else (some false)) else (none)) else (none)) else (none)) else (none)))) else (none)))) else (none))) else (some false))) else (none))) else (none)) else (none))) else (none)) = some r := by first | (rw [hy277]; with_reducible exact H) | (have H2_ := (Option.bind_some _ _).symm.trans H; rw [hy277]; with_reducible exact H2_) | (have H2_ := (Option.bind_some _ _).symm.trans H; with_reducible exact H2_) | with_reducible exact H | (rw [hy277]; exact H) | exact H
      have Ny277 := Aside0.mk hy277
      clear hy277
      by_cases c25 : y274.length + y277.length < 5864062014805
      rotate_left
      ·rw [if_neg c25] at H
       exact absurd H (by simp)
      rw [if_pos c25] at H
      have LMc25 := Aside0.mk c25
      clear c25
      obtain ⟨y281, hy281⟩ : ∃ y_ : List (S31), y_ = (y274 ++ y277) := ⟨_, rfl⟩
      replace H : (if 0 ≤ (wrap64 (x6_2 + 1)) then (if (wrap64 (x6_2 + 1)) ≤ (t266.length : Int) then ((some (t266.drop ((wrap64 (x6_2 + 1)) : Int).toNat : List (S31))).bind fun y284 => (if y281.length + y284.length < 5864062014805 then ((impl_TurnsOk.f k2 t262 t263 (y281 ++ y284)).bind fun t291 => (if t291 = true then ((some (([] : List (S31)) : List (S31))).bind fun y292 => (if y292.length + t266.length < 5864062014805 then ((some (y292 ++ t266 : List (S31))).bind fun y295 => ((some (([(⟨(rd_T31 t266 x6_2).f0, (rd_T31 t266 x6_2).f1, (rd_T31 t266 x6_2).f2⟩ : S31)] : List (S31)) : List (S31))).bind fun y299 => (if y295.length + y299.length < 5864062014805 then ((impl_TurnsOk.f k2 t262 t263 (y295 ++ y299)).bind fun t305 => (if t305 = true then (some false) else (if 0 ≤ ((rd_T31 t266 x6_2).f0) then (if ((rd_T31 t266 x6_2).f0) < (t263.length : Int) then (if 0 ≤ ((rd_T31 t266 x6_2).f1) then (if ((rd_T31 t266 x6_2).f1) < (t263.length : Int) then (if ((rd_T33 t263 ((rd_T31 t266 x6_2).f0)).f1) = ((rd_T33 t263 ((rd_T31 t266 x6_2).f1)).f0) then (laws_FnTurnsOk.l0 k2 t266 (wrap64 (x6_2 + 1)) t262 t263) else (some false)) else (none)) else (none)) else (none)) else (none)))) else (none)))) else (none))) else (some false))) else (none))) else (none)) else (none)) = some r := by first | (rw [hy281]; with_reducible exact H) | (have H2_ := (Option.bind_some _ _).symm.trans H; rw [hy281]; with_reducible exact H2_) | (have H2_ := (Option.bind_some _ _).symm.trans H; with_reducible exact H2_) | with_reducible exact H | (rw [hy281]; exact H) | exact H
      have Ny281 := Aside0.mk hy281
      clear hy281
      obtain ⟨ji26, hji26⟩ : ∃ j_ : Int, (wrap64 (x6_2 + 1)) = j_ := ⟨_, rfl⟩
      replace H : (if 0 ≤ (ji26) then (if (ji26) ≤ (t266.length : Int) then ((some (t266.drop ((ji26) : Int).toNat : List (S31))).bind fun y284 => (if y281.length + y284.length < 5864062014805 then ((impl_TurnsOk.f k2 t262 t263 (y281 ++ y284)).bind fun t291 => (if t291 = true then ((some (([] : List (S31)) : List (S31))).bind fun y292 => (if y292.length + t266.length < 5864062014805 then ((some (y292 ++ t266 : List (S31))).bind fun y295 => ((some (([(⟨(rd_T31 t266 x6_2).f0, (rd_T31 t266 x6_2).f1, (rd_T31 t266 x6_2).f2⟩ : S31)] : List (S31)) : List (S31))).bind fun y299 => (if y295.length + y299.length < 5864062014805 then ((impl_TurnsOk.f k2 t262 t263 (y295 ++ y299)).bind fun t305 => (if t305 = true then (some false) else (if 0 ≤ ((rd_T31 t266 x6_2).f0) then (if ((rd_T31 t266 x6_2).f0) < (t263.length : Int) then (if 0 ≤ ((rd_T31 t266 x6_2).f1) then (if ((rd_T31 t266 x6_2).f1) < (t263.length : Int) then (if ((rd_T33 t263 ((rd_T31 t266 x6_2).f0)).f1) = ((rd_T33 t263 ((rd_T31 t266 x6_2).f1)).f0) then (laws_FnTurnsOk.l0 k2 t266 ji26 t262 t263) else (some false)) else (none)) else (none)) else (none)) else (none)))) else (none)))) else (none))) else (some false))) else (none))) else (none)) else (none)) = some r := by first | (rw [hji26] at H; exact H) | (simp only [hji26] at H ⊢; exact H)
      have hji26w : (IntKind.i64.wrap (x6_2 + 1)) = ji26 := (i64_w _).trans hji26
      by_cases c27 : 0 ≤ (ji26)
      rotate_left
      ·rw [if_neg c27] at H
       exact absurd H (by simp)
      rw [if_pos c27] at H
      have c27b0 := eq_true c27
      have c27b1 : decide (0 ≤ (ji26)) = true := decide_eq_true c27
      clear c27
      by_cases c28 : (ji26) ≤ (t266.length : Int)
      rotate_left
      ·rw [if_neg c28] at H
       exact absurd H (by simp)
      rw [if_pos c28] at H
      have c28b0 := eq_true c28
      have c28b1 : decide ((ji26) ≤ (t266.length : Int)) = true := decide_eq_true c28
      clear c28
      obtain ⟨y284, hy284⟩ : ∃ y_ : List (S31), y_ = (t266.drop ((ji26) : Int).toNat) := ⟨_, rfl⟩
      replace H : (if y281.length + y284.length < 5864062014805 then ((impl_TurnsOk.f k2 t262 t263 (y281 ++ y284)).bind fun t291 => (if t291 = true then ((some (([] : List (S31)) : List (S31))).bind fun y292 => (if y292.length + t266.length < 5864062014805 then ((some (y292 ++ t266 : List (S31))).bind fun y295 => ((some (([(⟨(rd_T31 t266 x6_2).f0, (rd_T31 t266 x6_2).f1, (rd_T31 t266 x6_2).f2⟩ : S31)] : List (S31)) : List (S31))).bind fun y299 => (if y295.length + y299.length < 5864062014805 then ((impl_TurnsOk.f k2 t262 t263 (y295 ++ y299)).bind fun t305 => (if t305 = true then (some false) else (if 0 ≤ ((rd_T31 t266 x6_2).f0) then (if ((rd_T31 t266 x6_2).f0) < (t263.length : Int) then (if 0 ≤ ((rd_T31 t266 x6_2).f1) then (if ((rd_T31 t266 x6_2).f1) < (t263.length : Int) then (if ((rd_T33 t263 ((rd_T31 t266 x6_2).f0)).f1) = ((rd_T33 t263 ((rd_T31 t266 x6_2).f1)).f0) then (laws_FnTurnsOk.l0 k2 t266 ji26 t262 t263) else (some false)) else (none)) else (none)) else (none)) else (none)))) else (none)))) else (none))) else (some false))) else (none)) = some r := by first | (rw [hy284]; with_reducible exact H) | (have H2_ := (Option.bind_some _ _).symm.trans H; rw [hy284]; with_reducible exact H2_) | (have H2_ := (Option.bind_some _ _).symm.trans H; with_reducible exact H2_) | with_reducible exact H | (rw [hy284]; exact H) | exact H
      have Ny284 := Aside0.mk hy284
      clear hy284
      by_cases c29 : y281.length + y284.length < 5864062014805
      rotate_left
      ·rw [if_neg c29] at H
       exact absurd H (by simp)
      rw [if_pos c29] at H
      have LMc29 := Aside0.mk c29
      clear c29
      obtain ⟨y288, hy288⟩ : ∃ y_ : List (S31), y_ = (y281 ++ y284) := ⟨_, rfl⟩
      replace H : ((impl_TurnsOk.f k2 t262 t263 y288).bind fun t291 => (if t291 = true then ((some (([] : List (S31)) : List (S31))).bind fun y292 => (if y292.length + t266.length < 5864062014805 then ((some (y292 ++ t266 : List (S31))).bind fun y295 => ((some (([(⟨(rd_T31 t266 x6_2).f0, (rd_T31 t266 x6_2).f1, (rd_T31 t266 x6_2).f2⟩ : S31)] : List (S31)) : List (S31))).bind fun y299 => (if y295.length + y299.length < 5864062014805 then ((impl_TurnsOk.f k2 t262 t263 (y295 ++ y299)).bind fun t305 => (if t305 = true then (some false) else (if 0 ≤ ((rd_T31 t266 x6_2).f0) then (if ((rd_T31 t266 x6_2).f0) < (t263.length : Int) then (if 0 ≤ ((rd_T31 t266 x6_2).f1) then (if ((rd_T31 t266 x6_2).f1) < (t263.length : Int) then (if ((rd_T33 t263 ((rd_T31 t266 x6_2).f0)).f1) = ((rd_T33 t263 ((rd_T31 t266 x6_2).f1)).f0) then (laws_FnTurnsOk.l0 k2 t266 ji26 t262 t263) else (some false)) else (none)) else (none)) else (none)) else (none)))) else (none)))) else (none))) else (some false))) = some r := by first | (rw [hy288]; with_reducible exact H) | (have H2_ := (Option.bind_some _ _).symm.trans H; rw [hy288]; with_reducible exact H2_) | (have H2_ := (Option.bind_some _ _).symm.trans H; with_reducible exact H2_) | with_reducible exact H | (rw [hy288]; exact H) | exact H
      have Ny288 := Aside0.mk hy288
      clear hy288
      replace H := Option.bind_eq_some_iff.mp H
      obtain ⟨t291, A300, H⟩ := H
      try dsimp only at H
      have A30 := Aside0.mk A300
      clear A300
      by_cases c31 : t291 = true
      rotate_left
      ·replace c31 := Bool.eq_false_iff.mpr c31
       subst c31
       have H1 : (some false) = some r := by rw [if_neg (show ¬ (false = true) by decide)] at H; exact H
       clear H
       have H := H1
       clear H1
       obtain rfl := Option.some.inj H
       try go_wp2
       replace HO_4 := Aside0.mk (rD3 HO_4.out)
       replace HO_270001 := Aside0.mk (rD3 HO_270001.out)
       replace BK269 := Aside0.mk (blk_drew BK269.out)
       replace HB := Aside0.mk (below_drew1 HB.out)
       have q102 : (x6_2 : Int) ≤ ((t266.length : Int) : Int) := of_decide_eq_true nx_
       obtain ⟨i0102, hi0102, _, hsz102, _⟩ := info_parts info31
       have hroom102 : t266.length ≤ co10 := (rR3 HO_4.out).2.1
       have hC102 : Kd.C k31 _ Ao10 t266.length t266 := (rR3 HO_4.out).2.2
       have hcut102 := cut_to (P := Try.prog) 26 31 .i64 Try.underlying26 hi0102 Ao10 t266.length co10 x6_2 (of_decide_eq_true nx_) q102 hroom102
       have hr102 := Kd.C_take (m := (x6_2 : Int).toNat) hC102 (by omega)
       have hy102 : y277.length = (x6_2 : Int).toNat := (by rw [Ny277.out, List.length_take]; omega)
       rw [← Ny277.out] at hr102
       rw [← hy102] at hcut102
       have HR280 := Aside0.mk hr102
       have HC280 := Aside0.mk (show y277.length ≤ co10 from by omega)
       clear hr102 hC102 hroom102 hi0102 hsz102
       have KY102 := Aside0.mk hy102
       clear hy102
       have KL102 := Aside0.mk (show (x6_2 : Int).toNat ≤ t266.length from by omega)
       replace q102 := eq_true q102
       have q103 : ((ji26) : Int) ≤ ((t266.length : Int) : Int) := of_decide_eq_true nx_
       obtain ⟨i0103, hi0103, _, hsz103, _⟩ := info_parts info31
       have hroom103 : t266.length ≤ co10 := (rR3 HO_4.out).2.1
       have hC103 : Kd.C k31 _ Ao10 t266.length t266 := (rR3 HO_4.out).2.2
       have q0103 : (0 : Int) ≤ ((ji26) : Int) := of_decide_eq_true nx_
       have hcut103 := cut_from (P := Try.prog) 26 31 .i64 Try.underlying26 hi0103 3 hsz103 Ao10 t266.length co10 (ji26) q0103 q103
       have hr103 := Kd.C_drop (m := ((ji26) : Int).toNat) (c := co10) hC103 (by omega) hroom103
       obtain ⟨A103, hA103⟩ : ∃ A1, A1 = (if co10 = ((ji26) : Int).toNat then Ao10 else (Ao10 : Option Addr).map (·.add (((ji26) : Int).toNat * 3))) := ⟨_, rfl⟩
       obtain ⟨c103, hc103⟩ : ∃ c1, c1 = co10 - ((ji26) : Int).toNat := ⟨_, rfl⟩
       have hy103 : y284.length = t266.length - ((ji26) : Int).toNat := (by rw [Ny284.out, List.length_drop] <;> omega)
       rw [show (t266).drop ((ji26) : Int).toNat = y284 from Ny284.out.symm] at hr103
       replace hr103 : Kd.C k31 _ A103 y284.length y284 := (by rw [hA103]; exact hr103)
       rw [← hy103, ← hA103, ← hc103] at hcut103
       have HR287 := Aside0.mk hr103
       have HC287 := Aside0.mk (show y284.length ≤ c103 from by rw [hy103, hc103]; exact Nat.sub_le_sub_right hroom103 _)
       clear hr103 hC103 hroom103 hi0103 hsz103
       have KC103 := Aside0.mk hc103
       clear hc103
       have KY103 := Aside0.mk hy103
       have KA103 := Aside0.mk hA103
       clear hy103 hA103
       have KL103 := Aside0.mk (show ((ji26) : Int).toNat ≤ t266.length from by omega)
       replace q103 := eq_true q103
       refine start_ (n := 11) (S := fun w' => True) (ds := []) z3_0 (by kernel_rfl) rfl rfl trivial (fun hHeld => ?_); refine with_tabW laws_FnTurnsOk.tab10 laws_FnTurnsOk.bits10 (fun HT_ HW_ => ?_)
       generalize wr.drew = w101 at HO_4 HO_270001 BK269 HB HR280 HR287 hHeld ⊢
       refine pu_ 1 40 z3_1 HT_.out ?_
       refine pu_ 2 41 z3_2 HT_.out ?_
       refine pu_ 3 42 z3_3 HT_.out ?_
       refine pu_ 5 44 z3_4 HT_.out ?_
       refine pu_ 6 45 z3_5 HT_.out ?_
       refine pu_ 7 46 z3_6 HT_.out ?_
       refine pu_ 8 47 z3_7 HT_.out ?_
       refine one_ (i := 0) (N := some 39) z3_8 rfl rfl (one_of HT_.out (by kernel_rfl)) (by decide) (fun K hK => ?_)
       refine Kd.R_lit_step k31 _ 31 ?hg (N := 39) ?hd (xs := ([] : List (S31))) (inner := []) (ok := fun _ => True) (okp := fun _ => True) ?hr ?hp (fun _ hk => hk) trivial (Below.refl _ _) (Nat.le_refl _) (by simp) ?_; (case hd => rfl); (case hg => rfl); (case hr => first | (go_simp; done) | (go_simp; rfl)); (case hp => exact (Reps.none _ _))
       intro v275 w104 ho105 hb hg_ hnew_
       clear hg_ hnew_
       (first | rw [← Ny274.out] at ho105 | (simp only [Int.reduceToNat] at ho105; rw [← Ny274.out] at ho105))
       replace HO_270001 := Aside0.mk (rB3 HO_270001.out hb)
       have HO276 := Aside0.mk (Kd.R_lower (Kd.R_new' ho105 (Kd.R_lt HO_4.out)) (eZ3 HB.out))
       replace HO_4 := Aside0.mk (Kd.R_elder' HO_4.out (Kd.R_base ho105) hb)
       replace BK269 := kb_ BK269 hb
       replace HR280 := Aside0.mk (Kd.C_below (by repeat (first | (with_reducible exact HR280.out) | (with_reducible refine cA3 ?_ _) | (with_reducible refine cN3 ?_ _) | (with_reducible refine cD3 ?_) | exact HR280.out)) hb)
       replace HR287 := Aside0.mk (Kd.C_below (by repeat (first | (with_reducible exact HR287.out) | (with_reducible refine cA3 ?_ _) | (with_reducible refine cN3 ?_ _) | (with_reducible refine cD3 ?_) | exact HR287.out)) hb)
       replace HB := Aside0.mk (below_step HB.out hb)
       clear hb ho105
       refine hK.out _ _ trivial (fun hHeld => ?_)
       clear hK K
       refine nm1_ (some 39) ?_
       refine one_ (i := 4) (N := some 43) z3_9 rfl rfl (one_of HT_.out (by kernel_rfl)) (by decide) (fun K hK => ?_)
       refine Kd.R_append_rows_step k31 (w0 := w) w.heap.size (by rfl) (.tmp 39) (.tmp 42) 26 31 (.agg #[(.int .i64 0), (.int .i64 0), (.int .i64 0)]) 24 rfl Try.underlying26 info31 rfl (by decide) (by omega) v275 y274 y277 _ _ _ (fun k_ => some k_ ≠ (.slice Ao10 t266.length co10 : Value).ownBlock) (fun _ => False) rfl rfl ?aO ?aR (fun _ _ h => h) (fun _ h => h.elim) ?aF ?aB ?aS ?aL ?_
       (case aR => repeat (first | exact (by repeat (first | (with_reducible exact HR280.out) | (with_reducible refine cA3 ?_ _) | (with_reducible refine cN3 ?_ _) | (with_reducible refine cD3 ?_) | exact HR280.out)) | (with_reducible refine cA3 ?_ _) | (with_reducible refine cN3 ?_ _) | (with_reducible refine cD3 ?_)))
       (case aB => exact HB.out)
       (case aF => exact (fun k_ hk => Kd.fresh' (Kd.R_lt HO_4.out) k_ hk))
       (case aO => exact (by (with_reducible repeat (first | apply rA3 | apply rN3 | apply rD3)); exact Kd.R_mono HO276.out (fun _ hk => by first | exact hk.2 | trivial | simp_all)))
       (case aS => exact (eZ3 HB.out))
       (case aL => have := LMc25.out; omega)
       intro v282 w106 ho hb hg hat
       rw [← Ny281.out] at ho
       replace HO_270001 := Aside0.mk (Kd.R_over' HO_270001.out (Kd.R_typed HO276.out) (by decide) hg)
       replace BK269 := Aside0.mk (blk_grown (g := gb269) (o := .cells #[.int .i64 t262, .slice Ao9 t263.length co9] 25 (0, 0)) BK269.out hg (Kd.R_ne HO276.out BK269.out (by decide)))
       replace HB := Aside0.mk (hb)
       replace HR280 := Aside0.mk ((show Kd.C k31 w106 Ao10 y277.length y277 from by rw [Ny277.out]; exact Kd.C_take (m := (x6_2 : Int).toNat) ((rR3 (Kd.R_after (ok := (fun _ => True)) HO_4.out hg hat)).2.2) KL102.out))
       replace HR287 := Aside0.mk ((show Kd.C k31 w106 A103 y284.length y284 from by rw [Ny284.out, KA103.out]; exact Kd.C_drop (m := ((ji26) : Int).toNat) (c := co10) ((rR3 (Kd.R_after (ok := (fun _ => True)) HO_4.out hg hat)).2.2) KL103.out ((rR3 (Kd.R_after (ok := (fun _ => True)) HO_4.out hg hat)).2.1)))
       replace HO_4 := Aside0.mk (Kd.R_after (ok := (fun _ => True)) HO_4.out hg hat)
       have HO283 := Aside0.mk (ho)
       clear HO276 ho hb hg hat
       refine hK.out _ _ trivial (fun hHeld => ?_)
       clear hK K
       refine nm1_ (some 43) ?_
       refine one_ (i := 9) (N := some 48) z3_10 rfl rfl (one_of HT_.out (by kernel_rfl)) (by decide) (fun K hK => ?_)
       refine Kd.R_append_rows_step k31 (w0 := w) w.heap.size (by rfl) (.tmp 43) (.tmp 47) 26 31 (.agg #[(.int .i64 0), (.int .i64 0), (.int .i64 0)]) 24 rfl Try.underlying26 info31 rfl (by decide) (by omega) v282 y281 y284 _ _ _ (fun k_ => some k_ ≠ (.slice Ao10 t266.length co10 : Value).ownBlock) (fun _ => False) rfl rfl ?aO ?aR (fun _ _ h => h) (fun _ h => h.elim) ?aF ?aB ?aS ?aL ?_
       (case aR => repeat (first | exact (by repeat (first | (with_reducible exact HR287.out) | (with_reducible refine cA3 ?_ _) | (with_reducible refine cN3 ?_ _) | (with_reducible refine cD3 ?_) | exact HR287.out)) | (with_reducible refine cA3 ?_ _) | (with_reducible refine cN3 ?_ _) | (with_reducible refine cD3 ?_)))
       (case aB => exact HB.out)
       (case aF => exact (fun k_ hk => Kd.fresh' (Kd.R_lt HO_4.out) k_ hk))
       (case aO => exact HO283.out)
       (case aS => exact (eZ3 HB.out))
       (case aL => have := LMc29.out; omega)
       intro v289 w107 ho hb hg hat
       rw [← Ny288.out] at ho
       replace HO_270001 := Aside0.mk (Kd.R_over' HO_270001.out (Kd.R_typed HO283.out) (by decide) hg)
       replace BK269 := Aside0.mk (blk_grown (g := gb269) (o := .cells #[.int .i64 t262, .slice Ao9 t263.length co9] 25 (0, 0)) BK269.out hg (Kd.R_ne HO283.out BK269.out (by decide)))
       replace HB := Aside0.mk (hb)
       replace HR280 := Aside0.mk ((show Kd.C k31 w107 Ao10 y277.length y277 from by rw [Ny277.out]; exact Kd.C_take (m := (x6_2 : Int).toNat) ((rR3 (Kd.R_after (ok := (fun _ => True)) HO_4.out hg hat)).2.2) KL102.out))
       replace HR287 := Aside0.mk ((show Kd.C k31 w107 A103 y284.length y284 from by rw [Ny284.out, KA103.out]; exact Kd.C_drop (m := ((ji26) : Int).toNat) (c := co10) ((rR3 (Kd.R_after (ok := (fun _ => True)) HO_4.out hg hat)).2.2) KL103.out ((rR3 (Kd.R_after (ok := (fun _ => True)) HO_4.out hg hat)).2.1)))
       replace HO_4 := Aside0.mk (Kd.R_after (ok := (fun _ => True)) HO_4.out hg hat)
       have HO290 := Aside0.mk (ho)
       clear HO283 ho hb hg hat
       refine hK.out _ _ trivial (fun hHeld => ?_)
       clear hK K
       refine nm1_ (some 48) ?_
       refine pu_ 10 7 z3_11 HT_.out ?_
       refine done_ (done_of HT_.out (by kernel_rfl)) ?_
       try go_wp2
       replace HO_4 := Aside0.mk (rD3 HO_4.out)
       replace HO_270001 := Aside0.mk (rD3 HO_270001.out)
       replace HO290 := Aside0.mk (rD3 HO290.out)
       replace BK269 := Aside0.mk (blk_drew BK269.out)
       replace HR280 := Aside0.mk (cD3 HR280.out)
       replace HR287 := Aside0.mk (cD3 HR287.out)
       replace HB := Aside0.mk (below_drew1 HB.out)
       obtain ⟨Ao109, co109, eo109⟩ := Kd.R_slice HO290.out
       (first | subst eo109 | (injection eo109 with f1_ f2_ f3_; have f4_ := f1_.symm; have f5_ := f3_.symm; clear f1_ f2_ f3_; subst f4_; subst f5_))
       refine start_ (n := 40) (S := fun w' => w'.cell? ⟨gb269, 0, none⟩ = some (.int .i64 t262) ∧ w'.cell? ⟨gb269, 1, none⟩ = some (.slice Ao9 t263.length co9)) (ds := []) z3_12 (by kernel_rfl) rfl rfl ⟨ct_ BK269.out 0, ct_ BK269.out 1⟩ (fun hHeld => ?_); refine with_tabW laws_FnTurnsOk.tab11 laws_FnTurnsOk.bits11 (fun HT_ HW_ => ?_)
       generalize w107.drew = w108 at HO_4 HO_270001 HO290 BK269 HR280 HR287 HB hHeld ⊢
       refine pu_ 1 50 z3_13 HT_.out ?_
       refine tk_ 0 49 z3_14 HT_.out HW_.out hHeld ?_
       refine one_ (i := 2) (N := some 51) z3_15 rfl rfl (one_of HT_.out (by kernel_rfl)) (by decide) (fun K hK => ?_)
       refine go_ Try.func5 #[.agg #[.int .i64 t262, .slice Ao9 t263.length co9], .slice Ao109 y288.length co109] ?_
       with_reducible refine (impl_TurnsOk.calls k2 t262 _ _ t263 _ _ y288 false _ ?side1 ?side2 ?side3 ?side4 A30.out).mono ?_
       (case side1 => exact nc_ (rR3 HO_270001.out).2.2)
       (case side2 => exact (rR3 HO_270001.out).2.1)
       (case side3 => exact nc_ (rR3 HO290.out).2.2)
       (case side4 => exact (rR3 HO290.out).2.1)
       rintro e w110 ⟨rfl, hb⟩
       refine ⟨_, rfl, ?_⟩
       replace HO_4 := Aside0.mk (rB3 HO_4.out hb)
       replace HO_270001 := Aside0.mk (rB3 HO_270001.out hb)
       replace HO290 := Aside0.mk (rB3 HO290.out hb)
       replace BK269 := kb_ BK269 hb
       replace HR280 := Aside0.mk (Kd.C_below (by repeat (first | (with_reducible exact HR280.out) | (with_reducible refine cA3 ?_ _) | (with_reducible refine cN3 ?_ _) | (with_reducible refine cD3 ?_) | exact HR280.out)) hb)
       replace HR287 := Aside0.mk (Kd.C_below (by repeat (first | (with_reducible exact HR287.out) | (with_reducible refine cA3 ?_ _) | (with_reducible refine cN3 ?_ _) | (with_reducible refine cD3 ?_) | exact HR287.out)) hb)
       replace HB := Aside0.mk (below_step HB.out hb)
       (try clear hb)
       (try clear hb2)
       (try clear hk)
       (try clear hi)
       refine hK.out _ _ ⟨ct_ BK269.out 0, ct_ BK269.out 1⟩ (fun hHeld => ?_)
       clear hK K
       refine nm1_ (some 51) ?_
       refine pu_ 3 52 z3_16 HT_.out ?_
       refine pu_ 4 53 z3_17 HT_.out ?_
       refine un_ 5 54 (bm_ 40 63) HT_.out ?_
       refine un_ 6 55 (bm_ 40 127) HT_.out ?_
       refine un_ 7 56 (bm_ 40 255) HT_.out ?_
       refine un_ 8 57 (bm_ 40 511) HT_.out ?_
       refine un_ 9 58 (bm_ 40 1023) HT_.out ?_
       refine un_ 10 59 (bm_ 40 2047) HT_.out ?_
       refine un_ 11 60 (bm_ 40 4095) HT_.out ?_
       refine un_ 12 61 z3_27 HT_.out ?_
       refine un_ 13 62 z3_24 HT_.out ?_
       refine un_ 14 63 z3_29 HT_.out ?_
       refine un_ 15 64 z3_30 HT_.out ?_
       refine pu_ 16 65 z3_31 HT_.out ?_
       refine pu_ 17 66 z3_32 HT_.out ?_
       refine un_ 18 67 z3_33 HT_.out ?_
       refine un_ 19 68 z3_34 HT_.out ?_
       refine un_ 20 69 z3_35 HT_.out ?_
       refine un_ 21 70 z3_36 HT_.out ?_
       refine un_ 22 71 z3_37 HT_.out ?_
       refine un_ 23 72 z3_38 HT_.out ?_
       refine un_ 24 73 z3_39 HT_.out ?_
       refine un_ 25 74 z3_40 HT_.out ?_
       refine un_ 26 75 z3_41 HT_.out ?_
       refine un_ 27 76 z3_42 HT_.out ?_
       refine un_ 28 77 z3_43 HT_.out ?_
       refine un_ 29 78 z3_44 HT_.out ?_
       refine un_ 30 79 z3_45 HT_.out ?_
       refine un_ 31 80 z3_46 HT_.out ?_
       refine un_ 32 81 z3_47 HT_.out ?_
       refine un_ 33 82 z3_48 HT_.out ?_
       refine un_ 34 83 z3_49 HT_.out ?_
       refine un_ 35 84 z3_50 HT_.out ?_
       refine un_ 36 85 z3_51 HT_.out ?_
       refine un_ 37 86 z3_52 HT_.out ?_
       refine un_ 38 87 z3_53 HT_.out ?_
       refine pu_ 39 88 z3_54 HT_.out ?_
       refine done_ (done_of HT_.out (by kernel_rfl)) ?_
       try go_wp2
       all_goals go_ret
       all_goals exact ⟨by first | rfl | (simp [errW_none, errW_some] <;> rfl) | (simp only [← hji26]; first | rfl | (simp [errW_none, errW_some] <;> rfl)) | (simp [*, errW_none, errW_some] <;> rfl), ne_ HB.out⟩
      subst c31
      rw [if_pos rfl] at H
      obtain ⟨y292, hy292⟩ : ∃ y_ : List (S31), y_ = (([] : List (S31))) := ⟨_, rfl⟩
      replace H : (if y292.length + t266.length < 5864062014805 then ((some (y292 ++ t266 : List (S31))).bind fun y295 => ((some (([(⟨(rd_T31 t266 x6_2).f0, (rd_T31 t266 x6_2).f1, (rd_T31 t266 x6_2).f2⟩ : S31)] : List (S31)) : List (S31))).bind fun y299 => (if y295.length + y299.length < 5864062014805 then ((impl_TurnsOk.f k2 t262 t263 (y295 ++ y299)).bind fun t305 => (if t305 = true then (some false) else (if 0 ≤ ((rd_T31 t266 x6_2).f0) then (if ((rd_T31 t266 x6_2).f0) < (t263.length : Int) then (if 0 ≤ ((rd_T31 t266 x6_2).f1) then (if ((rd_T31 t266 x6_2).f1) < (t263.length : Int) then (if ((rd_T33 t263 ((rd_T31 t266 x6_2).f0)).f1) = ((rd_T33 t263 ((rd_T31 t266 x6_2).f1)).f0) then (laws_FnTurnsOk.l0 k2 t266 ji26 t262 t263) else (some false)) else (none)) else (none)) else (none)) else (none)))) else (none)))) else (none)) = some r := by first | (rw [hy292]; with_reducible exact H) | (have H2_ := (Option.bind_some _ _).symm.trans H; rw [hy292]; with_reducible exact H2_) | (have H2_ := (Option.bind_some _ _).symm.trans H; with_reducible exact H2_) | with_reducible exact H | (rw [hy292]; exact H) | exact H
      have Ny292 := Aside0.mk hy292
      clear hy292
      by_cases c32 : y292.length + t266.length < 5864062014805
      rotate_left
      ·rw [if_neg c32] at H
       exact absurd H (by simp)
      rw [if_pos c32] at H
      have LMc32 := Aside0.mk c32
      clear c32
      obtain ⟨y295, hy295⟩ : ∃ y_ : List (S31), y_ = (y292 ++ t266) := ⟨_, rfl⟩
      replace H : ((some (([(⟨(rd_T31 t266 x6_2).f0, (rd_T31 t266 x6_2).f1, (rd_T31 t266 x6_2).f2⟩ : S31)] : List (S31)) : List (S31))).bind fun y299 => (if y295.length + y299.length < 5864062014805 then ((impl_TurnsOk.f k2 t262 t263 (y295 ++ y299)).bind fun t305 => (if t305 = true then (some false) else (if 0 ≤ ((rd_T31 t266 x6_2).f0) then (if ((rd_T31 t266 x6_2).f0) < (t263.length : Int) then (if 0 ≤ ((rd_T31 t266 x6_2).f1) then (if ((rd_T31 t266 x6_2).f1) < (t263.length : Int) then (if ((rd_T33 t263 ((rd_T31 t266 x6_2).f0)).f1) = ((rd_T33 t263 ((rd_T31 t266 x6_2).f1)).f0) then (laws_FnTurnsOk.l0 k2 t266 ji26 t262 t263) else (some false)) else (none)) else (none)) else (none)) else (none)))) else (none))) = some r := by first | (rw [hy295]; with_reducible exact H) | (have H2_ := (Option.bind_some _ _).symm.trans H; rw [hy295]; with_reducible exact H2_) | (have H2_ := (Option.bind_some _ _).symm.trans H; with_reducible exact H2_) | with_reducible exact H | (rw [hy295]; exact H) | exact H
      have Ny295 := Aside0.mk hy295
      clear hy295
      obtain ⟨y299, hy299⟩ : ∃ y_ : List (S31), y_ = (([(⟨(rd_T31 t266 x6_2).f0, (rd_T31 t266 x6_2).f1, (rd_T31 t266 x6_2).f2⟩ : S31)] : List (S31))) := ⟨_, rfl⟩
      replace H : (if y295.length + y299.length < 5864062014805 then ((impl_TurnsOk.f k2 t262 t263 (y295 ++ y299)).bind fun t305 => (if t305 = true then (some false) else (if 0 ≤ ((rd_T31 t266 x6_2).f0) then (if ((rd_T31 t266 x6_2).f0) < (t263.length : Int) then (if 0 ≤ ((rd_T31 t266 x6_2).f1) then (if ((rd_T31 t266 x6_2).f1) < (t263.length : Int) then (if ((rd_T33 t263 ((rd_T31 t266 x6_2).f0)).f1) = ((rd_T33 t263 ((rd_T31 t266 x6_2).f1)).f0) then (laws_FnTurnsOk.l0 k2 t266 ji26 t262 t263) else (some false)) else (none)) else (none)) else (none)) else (none)))) else (none)) = some r := by first | (rw [hy299]; with_reducible exact H) | (have H2_ := (Option.bind_some _ _).symm.trans H; rw [hy299]; with_reducible exact H2_) | (have H2_ := (Option.bind_some _ _).symm.trans H; with_reducible exact H2_) | with_reducible exact H | (rw [hy299]; exact H) | exact H
      have Ny299 := Aside0.mk hy299
      clear hy299
      by_cases c33 : y295.length + y299.length < 5864062014805
      rotate_left
      ·rw [if_neg c33] at H
       exact absurd H (by simp)
      rw [if_pos c33] at H
      have LMc33 := Aside0.mk c33
      clear c33
      obtain ⟨y302, hy302⟩ : ∃ y_ : List (S31), y_ = (y295 ++ y299) := ⟨_, rfl⟩
      replace H : ((impl_TurnsOk.f k2 t262 t263 y302).bind fun t305 => (if t305 = true then (some false) else (if 0 ≤ ((rd_T31 t266 x6_2).f0) then (if ((rd_T31 t266 x6_2).f0) < (t263.length : Int) then (if 0 ≤ ((rd_T31 t266 x6_2).f1) then (if ((rd_T31 t266 x6_2).f1) < (t263.length : Int) then (if ((rd_T33 t263 ((rd_T31 t266 x6_2).f0)).f1) = ((rd_T33 t263 ((rd_T31 t266 x6_2).f1)).f0) then (laws_FnTurnsOk.l0 k2 t266 ji26 t262 t263) else (some false)) else (none)) else (none)) else (none)) else (none)))) = some r := by first | (rw [hy302]; with_reducible exact H) | (have H2_ := (Option.bind_some _ _).symm.trans H; rw [hy302]; with_reducible exact H2_) | (have H2_ := (Option.bind_some _ _).symm.trans H; with_reducible exact H2_) | with_reducible exact H | (rw [hy302]; exact H) | exact H
      have Ny302 := Aside0.mk hy302
      clear hy302
      replace H := Option.bind_eq_some_iff.mp H
      obtain ⟨t305, A340, H⟩ := H
      try dsimp only at H
      have A34 := Aside0.mk A340
      clear A340
      by_cases c35 : t305 = true
      ·subst c35
       have H1 : (some false) = some r := by rw [if_pos rfl] at H; exact H
       clear H
       have H := H1
       clear H1
       obtain rfl := Option.some.inj H
       try go_wp2
       replace HO_4 := Aside0.mk (rD3 HO_4.out)
       replace HO_270001 := Aside0.mk (rD3 HO_270001.out)
       replace BK269 := Aside0.mk (blk_drew BK269.out)
       replace HB := Aside0.mk (below_drew1 HB.out)
       have q37 : (x6_2 : Int) ≤ ((t266.length : Int) : Int) := of_decide_eq_true nx_
       obtain ⟨i037, hi037, _, hsz37, _⟩ := info_parts info31
       have hroom37 : t266.length ≤ co10 := (rR3 HO_4.out).2.1
       have hC37 : Kd.C k31 _ Ao10 t266.length t266 := (rR3 HO_4.out).2.2
       have hcut37 := cut_to (P := Try.prog) 26 31 .i64 Try.underlying26 hi037 Ao10 t266.length co10 x6_2 (of_decide_eq_true nx_) q37 hroom37
       have hr37 := Kd.C_take (m := (x6_2 : Int).toNat) hC37 (by omega)
       have hy37 : y277.length = (x6_2 : Int).toNat := (by rw [Ny277.out, List.length_take]; omega)
       rw [← Ny277.out] at hr37
       rw [← hy37] at hcut37
       have HR280 := Aside0.mk hr37
       have HC280 := Aside0.mk (show y277.length ≤ co10 from by omega)
       clear hr37 hC37 hroom37 hi037 hsz37
       have KY37 := Aside0.mk hy37
       clear hy37
       have KL37 := Aside0.mk (show (x6_2 : Int).toNat ≤ t266.length from by omega)
       replace q37 := eq_true q37
       have q38 : ((ji26) : Int) ≤ ((t266.length : Int) : Int) := of_decide_eq_true nx_
       obtain ⟨i038, hi038, _, hsz38, _⟩ := info_parts info31
       have hroom38 : t266.length ≤ co10 := (rR3 HO_4.out).2.1
       have hC38 : Kd.C k31 _ Ao10 t266.length t266 := (rR3 HO_4.out).2.2
       have q038 : (0 : Int) ≤ ((ji26) : Int) := of_decide_eq_true nx_
       have hcut38 := cut_from (P := Try.prog) 26 31 .i64 Try.underlying26 hi038 3 hsz38 Ao10 t266.length co10 (ji26) q038 q38
       have hr38 := Kd.C_drop (m := ((ji26) : Int).toNat) (c := co10) hC38 (by omega) hroom38
       obtain ⟨A38, hA38⟩ : ∃ A1, A1 = (if co10 = ((ji26) : Int).toNat then Ao10 else (Ao10 : Option Addr).map (·.add (((ji26) : Int).toNat * 3))) := ⟨_, rfl⟩
       obtain ⟨c38, hc38⟩ : ∃ c1, c1 = co10 - ((ji26) : Int).toNat := ⟨_, rfl⟩
       have hy38 : y284.length = t266.length - ((ji26) : Int).toNat := (by rw [Ny284.out, List.length_drop] <;> omega)
       rw [show (t266).drop ((ji26) : Int).toNat = y284 from Ny284.out.symm] at hr38
       replace hr38 : Kd.C k31 _ A38 y284.length y284 := (by rw [hA38]; exact hr38)
       rw [← hy38, ← hA38, ← hc38] at hcut38
       have HR287 := Aside0.mk hr38
       have HC287 := Aside0.mk (show y284.length ≤ c38 from by rw [hy38, hc38]; exact Nat.sub_le_sub_right hroom38 _)
       clear hr38 hC38 hroom38 hi038 hsz38
       have KC38 := Aside0.mk hc38
       clear hc38
       have KY38 := Aside0.mk hy38
       have KA38 := Aside0.mk hA38
       clear hy38 hA38
       have KL38 := Aside0.mk (show ((ji26) : Int).toNat ≤ t266.length from by omega)
       replace q38 := eq_true q38
       refine start_ (n := 11) (S := fun w' => True) (ds := []) z3_0 (by kernel_rfl) rfl rfl trivial (fun hHeld => ?_); refine with_tabW laws_FnTurnsOk.tab10 laws_FnTurnsOk.bits10 (fun HT_ HW_ => ?_)
       generalize wr.drew = w36 at HO_4 HO_270001 BK269 HB HR280 HR287 hHeld ⊢
       refine pu_ 1 40 z3_1 HT_.out ?_
       refine pu_ 2 41 z3_2 HT_.out ?_
       refine pu_ 3 42 z3_3 HT_.out ?_
       refine pu_ 5 44 z3_4 HT_.out ?_
       refine pu_ 6 45 z3_5 HT_.out ?_
       refine pu_ 7 46 z3_6 HT_.out ?_
       refine pu_ 8 47 z3_7 HT_.out ?_
       refine one_ (i := 0) (N := some 39) z3_8 rfl rfl (one_of HT_.out (by kernel_rfl)) (by decide) (fun K hK => ?_)
       refine Kd.R_lit_step k31 _ 31 ?hg (N := 39) ?hd (xs := ([] : List (S31))) (inner := []) (ok := fun _ => True) (okp := fun _ => True) ?hr ?hp (fun _ hk => hk) trivial (Below.refl _ _) (Nat.le_refl _) (by simp) ?_; (case hd => rfl); (case hg => rfl); (case hr => first | (go_simp; done) | (go_simp; rfl)); (case hp => exact (Reps.none _ _))
       intro v275 w39 ho40 hb hg_ hnew_
       clear hg_ hnew_
       (first | rw [← Ny274.out] at ho40 | (simp only [Int.reduceToNat] at ho40; rw [← Ny274.out] at ho40))
       replace HO_270001 := Aside0.mk (rB3 HO_270001.out hb)
       have HO276 := Aside0.mk (Kd.R_lower (Kd.R_new' ho40 (Kd.R_lt HO_4.out)) (eZ3 HB.out))
       replace HO_4 := Aside0.mk (Kd.R_elder' HO_4.out (Kd.R_base ho40) hb)
       replace BK269 := kb_ BK269 hb
       replace HR280 := Aside0.mk (Kd.C_below (by repeat (first | (with_reducible exact HR280.out) | (with_reducible refine cA3 ?_ _) | (with_reducible refine cN3 ?_ _) | (with_reducible refine cD3 ?_) | exact HR280.out)) hb)
       replace HR287 := Aside0.mk (Kd.C_below (by repeat (first | (with_reducible exact HR287.out) | (with_reducible refine cA3 ?_ _) | (with_reducible refine cN3 ?_ _) | (with_reducible refine cD3 ?_) | exact HR287.out)) hb)
       replace HB := Aside0.mk (below_step HB.out hb)
       clear hb ho40
       refine hK.out _ _ trivial (fun hHeld => ?_)
       clear hK K
       refine nm1_ (some 39) ?_
       refine one_ (i := 4) (N := some 43) z3_9 rfl rfl (one_of HT_.out (by kernel_rfl)) (by decide) (fun K hK => ?_)
       refine Kd.R_append_rows_step k31 (w0 := w) w.heap.size (by rfl) (.tmp 39) (.tmp 42) 26 31 (.agg #[(.int .i64 0), (.int .i64 0), (.int .i64 0)]) 24 rfl Try.underlying26 info31 rfl (by decide) (by omega) v275 y274 y277 _ _ _ (fun k_ => some k_ ≠ (.slice Ao10 t266.length co10 : Value).ownBlock) (fun _ => False) rfl rfl ?aO ?aR (fun _ _ h => h) (fun _ h => h.elim) ?aF ?aB ?aS ?aL ?_
       (case aR => repeat (first | exact (by repeat (first | (with_reducible exact HR280.out) | (with_reducible refine cA3 ?_ _) | (with_reducible refine cN3 ?_ _) | (with_reducible refine cD3 ?_) | exact HR280.out)) | (with_reducible refine cA3 ?_ _) | (with_reducible refine cN3 ?_ _) | (with_reducible refine cD3 ?_)))
       (case aB => exact HB.out)
       (case aF => exact (fun k_ hk => Kd.fresh' (Kd.R_lt HO_4.out) k_ hk))
       (case aO => exact (by (with_reducible repeat (first | apply rA3 | apply rN3 | apply rD3)); exact Kd.R_mono HO276.out (fun _ hk => by first | exact hk.2 | trivial | simp_all)))
       (case aS => exact (eZ3 HB.out))
       (case aL => have := LMc25.out; omega)
       intro v282 w41 ho hb hg hat
       rw [← Ny281.out] at ho
       replace HO_270001 := Aside0.mk (Kd.R_over' HO_270001.out (Kd.R_typed HO276.out) (by decide) hg)
       replace BK269 := Aside0.mk (blk_grown (g := gb269) (o := .cells #[.int .i64 t262, .slice Ao9 t263.length co9] 25 (0, 0)) BK269.out hg (Kd.R_ne HO276.out BK269.out (by decide)))
       replace HB := Aside0.mk (hb)
       replace HR280 := Aside0.mk ((show Kd.C k31 w41 Ao10 y277.length y277 from by rw [Ny277.out]; exact Kd.C_take (m := (x6_2 : Int).toNat) ((rR3 (Kd.R_after (ok := (fun _ => True)) HO_4.out hg hat)).2.2) KL37.out))
       replace HR287 := Aside0.mk ((show Kd.C k31 w41 A38 y284.length y284 from by rw [Ny284.out, KA38.out]; exact Kd.C_drop (m := ((ji26) : Int).toNat) (c := co10) ((rR3 (Kd.R_after (ok := (fun _ => True)) HO_4.out hg hat)).2.2) KL38.out ((rR3 (Kd.R_after (ok := (fun _ => True)) HO_4.out hg hat)).2.1)))
       replace HO_4 := Aside0.mk (Kd.R_after (ok := (fun _ => True)) HO_4.out hg hat)
       have HO283 := Aside0.mk (ho)
       clear HO276 ho hb hg hat
       refine hK.out _ _ trivial (fun hHeld => ?_)
       clear hK K
       refine nm1_ (some 43) ?_
       refine one_ (i := 9) (N := some 48) z3_10 rfl rfl (one_of HT_.out (by kernel_rfl)) (by decide) (fun K hK => ?_)
       refine Kd.R_append_rows_step k31 (w0 := w) w.heap.size (by rfl) (.tmp 43) (.tmp 47) 26 31 (.agg #[(.int .i64 0), (.int .i64 0), (.int .i64 0)]) 24 rfl Try.underlying26 info31 rfl (by decide) (by omega) v282 y281 y284 _ _ _ (fun k_ => some k_ ≠ (.slice Ao10 t266.length co10 : Value).ownBlock) (fun _ => False) rfl rfl ?aO ?aR (fun _ _ h => h) (fun _ h => h.elim) ?aF ?aB ?aS ?aL ?_
       (case aR => repeat (first | exact (by repeat (first | (with_reducible exact HR287.out) | (with_reducible refine cA3 ?_ _) | (with_reducible refine cN3 ?_ _) | (with_reducible refine cD3 ?_) | exact HR287.out)) | (with_reducible refine cA3 ?_ _) | (with_reducible refine cN3 ?_ _) | (with_reducible refine cD3 ?_)))
       (case aB => exact HB.out)
       (case aF => exact (fun k_ hk => Kd.fresh' (Kd.R_lt HO_4.out) k_ hk))
       (case aO => exact HO283.out)
       (case aS => exact (eZ3 HB.out))
       (case aL => have := LMc29.out; omega)
       intro v289 w42 ho hb hg hat
       rw [← Ny288.out] at ho
       replace HO_270001 := Aside0.mk (Kd.R_over' HO_270001.out (Kd.R_typed HO283.out) (by decide) hg)
       replace BK269 := Aside0.mk (blk_grown (g := gb269) (o := .cells #[.int .i64 t262, .slice Ao9 t263.length co9] 25 (0, 0)) BK269.out hg (Kd.R_ne HO283.out BK269.out (by decide)))
       replace HB := Aside0.mk (hb)
       replace HR280 := Aside0.mk ((show Kd.C k31 w42 Ao10 y277.length y277 from by rw [Ny277.out]; exact Kd.C_take (m := (x6_2 : Int).toNat) ((rR3 (Kd.R_after (ok := (fun _ => True)) HO_4.out hg hat)).2.2) KL37.out))
       replace HR287 := Aside0.mk ((show Kd.C k31 w42 A38 y284.length y284 from by rw [Ny284.out, KA38.out]; exact Kd.C_drop (m := ((ji26) : Int).toNat) (c := co10) ((rR3 (Kd.R_after (ok := (fun _ => True)) HO_4.out hg hat)).2.2) KL38.out ((rR3 (Kd.R_after (ok := (fun _ => True)) HO_4.out hg hat)).2.1)))
       replace HO_4 := Aside0.mk (Kd.R_after (ok := (fun _ => True)) HO_4.out hg hat)
       have HO290 := Aside0.mk (ho)
       clear HO283 ho hb hg hat
       refine hK.out _ _ trivial (fun hHeld => ?_)
       clear hK K
       refine nm1_ (some 48) ?_
       refine pu_ 10 7 z3_11 HT_.out ?_
       refine done_ (done_of HT_.out (by kernel_rfl)) ?_
       obtain ⟨Ao43, co43, eo43⟩ := Kd.R_slice HO290.out
       subst eo43
       try go_wp2
       replace HO_4 := Aside0.mk (rD3 HO_4.out)
       replace HO_270001 := Aside0.mk (rD3 HO_270001.out)
       replace HO290 := Aside0.mk (rD3 HO290.out)
       replace BK269 := Aside0.mk (blk_drew BK269.out)
       replace HR280 := Aside0.mk (cD3 HR280.out)
       replace HR287 := Aside0.mk (cD3 HR287.out)
       replace HB := Aside0.mk (below_drew1 HB.out)
       have p298 : 0 ≤ (x6_2 : Int) := of_decide_eq_true nx_
       have q298 : x6_2 < (t266.length : Int) := of_decide_eq_true nx_
       obtain ⟨ad298, e298, hx298_0, hx298_1, hx298_2⟩ := at_T31 (rR3 HO_4.out).2.2 x6_2 p298 q298
       cases e298
       replace p298 := eq_true p298
       replace q298 := eq_true q298
       refine start_ (n := 40) (S := fun w' => w'.cell? ⟨gb269, 0, none⟩ = some (.int .i64 t262) ∧ w'.cell? ⟨gb269, 1, none⟩ = some (.slice Ao9 t263.length co9) ∧ w'.cell? (ad298.add ((x6_2).toNat * 3)) = some (.int .i64 ((rd_T31 t266 x6_2).f0)) ∧ w'.cell? ⟨(ad298.add ((x6_2).toNat * 3)).block, (ad298.add ((x6_2).toNat * 3)).off + 1, none⟩ = some (.int .i64 ((rd_T31 t266 x6_2).f1)) ∧ w'.cell? ⟨(ad298.add ((x6_2).toNat * 3)).block, (ad298.add ((x6_2).toNat * 3)).off + 2, none⟩ = some (.int .i64 ((rd_T31 t266 x6_2).f2))) (ds := []) z3_12 (by kernel_rfl) rfl rfl ⟨ct_ BK269.out 0, ct_ BK269.out 1, hx298_0, hx298_1, hx298_2⟩ (fun hHeld => ?_); refine with_tabW laws_FnTurnsOk.tab11 laws_FnTurnsOk.bits11 (fun HT_ HW_ => ?_)
       generalize w42.drew = w44 at HO_4 HO_270001 HO290 BK269 HR280 HR287 HB hx298_0 hx298_1 hx298_2 hHeld ⊢
       refine pu_ 1 50 z3_13 HT_.out ?_
       refine tk_ 0 49 z3_14 HT_.out HW_.out hHeld ?_
       refine one_ (i := 2) (N := some 51) z3_15 rfl rfl (one_of HT_.out (by kernel_rfl)) (by decide) (fun K hK => ?_)
       refine go_ Try.func5 #[.agg #[.int .i64 t262, .slice Ao9 t263.length co9], .slice Ao43 y288.length co43] ?_
       with_reducible refine (impl_TurnsOk.calls k2 t262 _ _ t263 _ _ y288 true _ ?side1 ?side2 ?side3 ?side4 A30.out).mono ?_
       (case side1 => exact nc_ (rR3 HO_270001.out).2.2)
       (case side2 => exact (rR3 HO_270001.out).2.1)
       (case side3 => exact nc_ (rR3 HO290.out).2.2)
       (case side4 => exact (rR3 HO290.out).2.1)
       rintro e w45 ⟨rfl, hb⟩
       have HS2_ := (hb.cell (World.block_lt_of_cell? _ _ (hHeld.2.2.1))).trans (hHeld.2.2.1)
       have HS3_ := (hb.cell (World.block_lt_of_cell? _ _ (hHeld.2.2.2.1))).trans (hHeld.2.2.2.1)
       have HS4_ := (hb.cell (World.block_lt_of_cell? _ _ (hHeld.2.2.2.2))).trans (hHeld.2.2.2.2)
       refine ⟨_, rfl, ?_⟩
       replace HO_4 := Aside0.mk (rB3 HO_4.out hb)
       replace HO_270001 := Aside0.mk (rB3 HO_270001.out hb)
       replace HO290 := Aside0.mk (rB3 HO290.out hb)
       replace BK269 := kb_ BK269 hb
       replace HR280 := Aside0.mk (Kd.C_below (by repeat (first | (with_reducible exact HR280.out) | (with_reducible refine cA3 ?_ _) | (with_reducible refine cN3 ?_ _) | (with_reducible refine cD3 ?_) | exact HR280.out)) hb)
       replace HR287 := Aside0.mk (Kd.C_below (by repeat (first | (with_reducible exact HR287.out) | (with_reducible refine cA3 ?_ _) | (with_reducible refine cN3 ?_ _) | (with_reducible refine cD3 ?_) | exact HR287.out)) hb)
       replace HB := Aside0.mk (below_step HB.out hb)
       (try clear hb)
       (try clear hb2)
       (try clear hk)
       (try clear hi)
       refine hK.out _ _ ⟨ct_ BK269.out 0, ct_ BK269.out 1, HS2_, HS3_, HS4_⟩ (fun hHeld => ?_)
       clear hK K
       refine nm1_ (some 51) ?_
       refine pu_ 3 52 z3_16 HT_.out ?_
       refine pu_ 4 53 z3_17 HT_.out ?_
       refine pu_ 7 56 z3_18 HT_.out ?_
       refine pu_ 9 58 z3_19 HT_.out ?_
       refine pu_ 10 59 z3_20 HT_.out ?_
       refine pu_ 11 60 z3_21 HT_.out ?_
       refine tk_ 5 54 z3_22 HT_.out HW_.out hHeld ?_
       refine tk_ 12 61 z3_23 HT_.out HW_.out hHeld ?_
       refine join_ (σ := Value × Value × Value) 26 z3_24 (fun s_ => [(55, s_.1), (57, s_.2.1), (62, s_.2.2)]) (fun s_ w' => (w'.cell? ⟨gb269, 0, none⟩ = some (.int .i64 t262) ∧ w'.cell? ⟨gb269, 1, none⟩ = some (.slice Ao9 t263.length co9) ∧ w'.cell? (ad298.add ((x6_2).toNat * 3)) = some (.int .i64 ((rd_T31 t266 x6_2).f0)) ∧ w'.cell? ⟨(ad298.add ((x6_2).toNat * 3)).block, (ad298.add ((x6_2).toNat * 3)).off + 1, none⟩ = some (.int .i64 ((rd_T31 t266 x6_2).f1)) ∧ w'.cell? ⟨(ad298.add ((x6_2).toNat * 3)).block, (ad298.add ((x6_2).toNat * 3)).off + 2, none⟩ = some (.int .i64 ((rd_T31 t266 x6_2).f2))) ∧ (Kd.R k31 31 w' w.heap.size (fun k_ => some k_ ≠ (s_.2.1 : Value).ownBlock ∧ some k_ ≠ (s_.2.2 : Value).ownBlock ∧ some k_ ≠ (.slice (some ad298) t266.length co10 : Value).ownBlock) (.slice Ao43 y288.length co43) y288) ∧ (Kd.R k31 31 w' w.heap.size (fun k_ => some k_ ≠ (.slice Ao43 y288.length co43 : Value).ownBlock ∧ some k_ ≠ (s_.2.2 : Value).ownBlock ∧ some k_ ≠ (.slice (some ad298) t266.length co10 : Value).ownBlock) s_.2.1 y295) ∧ (Kd.R k31 31 w' w.heap.size (fun k_ => some k_ ≠ (.slice Ao43 y288.length co43 : Value).ownBlock ∧ some k_ ≠ (s_.2.1 : Value).ownBlock ∧ some k_ ≠ (.slice (some ad298) t266.length co10 : Value).ownBlock) s_.2.2 y299) ∧ (Kd.R k33 33 w' w.heap.size (fun _ => True) (.slice Ao9 t263.length co9) t263) ∧ (Kd.R k31 31 w' w.heap.size (fun k_ => some k_ ≠ (.slice Ao43 y288.length co43 : Value).ownBlock ∧ some k_ ≠ (s_.2.1 : Value).ownBlock ∧ some k_ ≠ (s_.2.2 : Value).ownBlock) (.slice (some ad298) t266.length co10) t266) ∧ (w'.heap[gb269]? = some (.cells #[.int .i64 t262, .slice Ao9 t263.length co9] 25 (0, 0))) ∧ (Below w.heap.size w w')) ?_ ?_
       rotate_left
       ·intro hCont
        refine two_ (i := 6) (j := 13) (Ni := some 55) (Nj := some 62) z3_25 z3_26 rfl rfl rfl rfl (two_of HT_.out (by kernel_rfl)) (by decide) (by decide) (fun K hK => ?_) (fun K hK => ?_)
        ·skip
         refine Kd.R_lit_step k31 _ 31 ?hg (N := 55) ?hd (xs := ([] : List (S31))) (inner := []) (ok := fun _ => True) (okp := fun _ => True) ?hr ?hp (fun _ hk => hk) trivial (Below.refl _ _) (Nat.le_refl _) (by simp) ?_; (case hd => rfl); (case hg => rfl); (case hr => first | (go_simp; done) | (go_simp; rfl)); (case hp => exact (Reps.none _ _))
         intro v293 w46 ho47 hb hg_ hnew_
         have HS2_ := (hb.cell (World.block_lt_of_cell? _ _ (hHeld.2.2.1))).trans (hHeld.2.2.1)
         have HS3_ := (hb.cell (World.block_lt_of_cell? _ _ (hHeld.2.2.2.1))).trans (hHeld.2.2.2.1)
         have HS4_ := (hb.cell (World.block_lt_of_cell? _ _ (hHeld.2.2.2.2))).trans (hHeld.2.2.2.2)
         clear hg_ hnew_
         (first | rw [← Ny292.out] at ho47 | (simp only [Int.reduceToNat] at ho47; rw [← Ny292.out] at ho47))
         replace HO_270001 := Aside0.mk (rB3 HO_270001.out hb)
         have HO294 := Aside0.mk (Kd.R_lower (Kd.R_new' (Kd.R_new' ho47 (Kd.R_lt HO_4.out)) (Kd.R_lt HO290.out)) (eZ3 HB.out))
         replace HO_4 := Aside0.mk (Kd.R_elder' HO_4.out (Kd.R_base ho47) hb)
         replace HO290 := Aside0.mk (Kd.R_elder' HO290.out (Kd.R_base ho47) hb)
         replace BK269 := kb_ BK269 hb
         replace HR280 := Aside0.mk (Kd.C_below (by repeat (first | (with_reducible exact HR280.out) | (with_reducible refine cA3 ?_ _) | (with_reducible refine cN3 ?_ _) | (with_reducible refine cD3 ?_) | exact HR280.out)) hb)
         replace HR287 := Aside0.mk (Kd.C_below (by repeat (first | (with_reducible exact HR287.out) | (with_reducible refine cA3 ?_ _) | (with_reducible refine cN3 ?_ _) | (with_reducible refine cD3 ?_) | exact HR287.out)) hb)
         replace HB := Aside0.mk (below_step HB.out hb)
         clear hb ho47
         refine hK.out _ _ ⟨ct_ BK269.out 0, ct_ BK269.out 1, HS2_, HS3_, HS4_⟩ (fun hHeld => ?_)
         clear hK K
         refine nm1_ (some 55) ?_
         refine two_ (i := 8) (j := 13) (Ni := some 57) (Nj := some 62) z3_27 z3_28 rfl rfl rfl rfl (two_of HT_.out (by kernel_rfl)) (by decide) (by decide) (fun K hK => ?_) (fun K hK => ?_)
         ·skip
          refine Kd.R_append_rows_step k31 (w0 := w) w.heap.size (by rfl) (.tmp 55) (.tmp 56) 26 31 (.agg #[(.int .i64 0), (.int .i64 0), (.int .i64 0)]) 24 rfl Try.underlying26 info31 rfl (by decide) (by omega) v293 y292 t266 _ _ _ (fun k_ => some k_ ≠ (.slice (some ad298) t266.length co10 : Value).ownBlock ∧ some k_ ≠ (.slice Ao43 y288.length co43 : Value).ownBlock) (fun _ => False) rfl rfl ?aO ?aR (fun _ _ h => h) (fun _ h => h.elim) ?aF ?aB ?aS ?aL ?_
          (case aR => repeat (first | exact (rR3 HO_4.out).2.2 | (with_reducible refine cA3 ?_ _) | (with_reducible refine cN3 ?_ _) | (with_reducible refine cD3 ?_)))
          (case aB => exact HB.out)
          (case aF => exact (fun k_ hk => ⟨Kd.fresh' (Kd.R_lt HO_4.out) k_ hk, Kd.fresh' (Kd.R_lt HO290.out) k_ hk⟩))
          (case aO => exact (by (with_reducible repeat (first | apply rA3 | apply rN3 | apply rD3)); exact Kd.R_mono HO294.out (fun _ hk => by first | exact ⟨hk.1.2, hk.2⟩ | trivial | simp_all)))
          (case aS => exact (eZ3 HB.out))
          (case aL => have := LMc32.out; omega)
          intro v296 w48 ho hb hg hat
          have HS2_ := cga_ hg (hHeld.2.2.1) HO294.out.1
          have HS3_ := cga_ hg (hHeld.2.2.2.1) HO294.out.1
          have HS4_ := cga_ hg (hHeld.2.2.2.2) HO294.out.1
          rw [← Ny295.out] at ho
          replace HO_270001 := Aside0.mk (Kd.R_over' HO_270001.out (Kd.R_typed HO294.out) (by decide) hg)
          replace BK269 := Aside0.mk (blk_grown (g := gb269) (o := .cells #[.int .i64 t262, .slice Ao9 t263.length co9] 25 (0, 0)) BK269.out hg (Kd.R_ne HO294.out BK269.out (by decide)))
          replace HO290 := Aside0.mk (Kd.R_after (ok := (fun k_ => some k_ ≠ (.slice (some ad298) t266.length co10 : Value).ownBlock)) HO290.out hg hat)
          replace HB := Aside0.mk (hb)
          replace HR280 := Aside0.mk ((show Kd.C k31 w48 (some ad298) y277.length y277 from by rw [Ny277.out]; exact Kd.C_take (m := (x6_2 : Int).toNat) ((rR3 (Kd.R_after (ok := (fun k_ => some k_ ≠ (.slice Ao43 y288.length co43 : Value).ownBlock)) (by (with_reducible repeat (first | apply rA3 | apply rN3 | apply rD3)); exact Kd.R_mono HO_4.out (fun _ hk => by first | exact ⟨hk.1.2, hk.2⟩ | trivial | simp_all)) hg hat)).2.2) KL37.out))
          replace HR287 := Aside0.mk ((show Kd.C k31 w48 A38 y284.length y284 from by rw [Ny284.out, KA38.out]; exact Kd.C_drop (m := ((ji26) : Int).toNat) (c := co10) ((rR3 (Kd.R_after (ok := (fun k_ => some k_ ≠ (.slice Ao43 y288.length co43 : Value).ownBlock)) (by (with_reducible repeat (first | apply rA3 | apply rN3 | apply rD3)); exact Kd.R_mono HO_4.out (fun _ hk => by first | exact ⟨hk.1.2, hk.2⟩ | trivial | simp_all)) hg hat)).2.2) KL38.out ((rR3 (Kd.R_after (ok := (fun k_ => some k_ ≠ (.slice Ao43 y288.length co43 : Value).ownBlock)) (by (with_reducible repeat (first | apply rA3 | apply rN3 | apply rD3)); exact Kd.R_mono HO_4.out (fun _ hk => by first | exact ⟨hk.1.2, hk.2⟩ | trivial | simp_all)) hg hat)).2.1)))
          replace HO_4 := Aside0.mk (Kd.R_after (ok := (fun k_ => some k_ ≠ (.slice Ao43 y288.length co43 : Value).ownBlock)) (by (with_reducible repeat (first | apply rA3 | apply rN3 | apply rD3)); exact Kd.R_mono HO_4.out (fun _ hk => by first | exact ⟨hk.1.2, hk.2⟩ | trivial | simp_all)) hg hat)
          have HO297 := Aside0.mk (ho)
          clear HO294 ho hb hg hat
          refine hK.out _ _ ⟨ct_ BK269.out 0, ct_ BK269.out 1, HS2_, HS3_, HS4_⟩ (fun hHeld => ?_)
          clear hK K
          refine nm1_ (some 57) ?_
          refine one_ (i := 13) (N := some 62) z3_24 rfl rfl (one_of HT_.out (by kernel_rfl)) (by decide) (fun K hK => ?_)
          refine Kd.R_lit_step k31 _ 31 ?hg (N := 62) ?hd (xs := ([(⟨(rd_T31 t266 x6_2).f0, (rd_T31 t266 x6_2).f1, (rd_T31 t266 x6_2).f2⟩ : S31)] : List (S31))) (inner := [.int .i64 ((rd_T31 t266 x6_2).f0), .int .i64 ((rd_T31 t266 x6_2).f1), .int .i64 ((rd_T31 t266 x6_2).f2)]) (ok := fun _ => True) (okp := fun _ => True) ?hr ?hp (fun _ hk => hk) trivial (Below.refl _ _) (Nat.le_refl _) (by simp) ?_; (case hd => rfl); (case hg => rfl); (case hr => first | (go_simp; done) | (go_simp; rfl)); (case hp => exact (Reps.c3 (show Kd.M k31 _ _ _ (⟨(rd_T31 t266 x6_2).f0, (rd_T31 t266 x6_2).f1, (rd_T31 t266 x6_2).f2⟩ : S31) [.int .i64 ((rd_T31 t266 x6_2).f0), .int .i64 ((rd_T31 t266 x6_2).f1), .int .i64 ((rd_T31 t266 x6_2).f2)] from (k31_mkM _ _ _ (⟨(rd_T31 t266 x6_2).f0, (rd_T31 t266 x6_2).f1, (rd_T31 t266 x6_2).f2⟩ : S31) )) (Reps.none _ _)))
          intro v300 w49 ho50 hb hg_ hnew_
          have HS2_ := (hb.cell (World.block_lt_of_cell? _ _ (hHeld.2.2.1))).trans (hHeld.2.2.1)
          have HS3_ := (hb.cell (World.block_lt_of_cell? _ _ (hHeld.2.2.2.1))).trans (hHeld.2.2.2.1)
          have HS4_ := (hb.cell (World.block_lt_of_cell? _ _ (hHeld.2.2.2.2))).trans (hHeld.2.2.2.2)
          clear hg_ hnew_
          (first | rw [← Ny299.out] at ho50 | (simp only [Int.reduceToNat] at ho50; rw [← Ny299.out] at ho50))
          replace HO_270001 := Aside0.mk (rB3 HO_270001.out hb)
          have HO301 := Aside0.mk (Kd.R_lower (Kd.R_new' (Kd.R_new' (Kd.R_new' ho50 (Kd.R_lt HO_4.out)) (Kd.R_lt HO290.out)) (Kd.R_lt HO297.out)) (eZ3 HB.out))
          replace HO_4 := Aside0.mk (Kd.R_elder' HO_4.out (Kd.R_base ho50) hb)
          replace HO290 := Aside0.mk (Kd.R_elder' HO290.out (Kd.R_base ho50) hb)
          replace HO297 := Aside0.mk (Kd.R_elder' HO297.out (Kd.R_base ho50) hb)
          replace BK269 := kb_ BK269 hb
          replace HR280 := Aside0.mk (Kd.C_below (by repeat (first | (with_reducible exact HR280.out) | (with_reducible refine cA3 ?_ _) | (with_reducible refine cN3 ?_ _) | (with_reducible refine cD3 ?_) | exact HR280.out)) hb)
          replace HR287 := Aside0.mk (Kd.C_below (by repeat (first | (with_reducible exact HR287.out) | (with_reducible refine cA3 ?_ _) | (with_reducible refine cN3 ?_ _) | (with_reducible refine cD3 ?_) | exact HR287.out)) hb)
          replace HB := Aside0.mk (below_step HB.out hb)
          clear hb ho50
          refine hK.out _ _ ⟨ct_ BK269.out 0, ct_ BK269.out 1, HS2_, HS3_, HS4_⟩ (fun hHeld => ?_)
          clear hK K
          refine nm1_ (some 62) ?_
          exact norm_ (by simp only [putAll, Act.put, List.setIfInBounds_toArray, List.set_cons_zero, List.set_cons_succ]) (hCont (v293, v296, v300) _ ⟨hHeld, (by (with_reducible repeat (first | apply rA3 | apply rN3 | apply rD3)); exact Kd.R_mono HO290.out (fun _ hk => by first | exact ⟨hk.1.2, ⟨hk.2, hk.1.1⟩⟩ | trivial | simp_all)), (by (with_reducible repeat (first | apply rA3 | apply rN3 | apply rD3)); exact Kd.R_mono HO297.out (fun _ hk => by first | exact ⟨hk.1.2, ⟨hk.2, hk.1.1⟩⟩ | trivial | simp_all)), (by (with_reducible repeat (first | apply rA3 | apply rN3 | apply rD3)); exact Kd.R_mono HO301.out (fun _ hk => by first | exact ⟨hk.1.2, ⟨hk.2, hk.1.1.2⟩⟩ | trivial | simp_all)), HO_270001.out, (by (with_reducible repeat (first | apply rA3 | apply rN3 | apply rD3)); exact Kd.R_mono HO_4.out (fun _ hk => by first | exact ⟨hk.1.1, ⟨hk.1.2, hk.2⟩⟩ | trivial | simp_all)), BK269.out, HB.out⟩)
         ·skip
          refine Kd.R_lit_step k31 _ 31 ?hg (N := 62) ?hd (xs := ([(⟨(rd_T31 t266 x6_2).f0, (rd_T31 t266 x6_2).f1, (rd_T31 t266 x6_2).f2⟩ : S31)] : List (S31))) (inner := [.int .i64 ((rd_T31 t266 x6_2).f0), .int .i64 ((rd_T31 t266 x6_2).f1), .int .i64 ((rd_T31 t266 x6_2).f2)]) (ok := fun _ => True) (okp := fun _ => True) ?hr ?hp (fun _ hk => hk) trivial (Below.refl _ _) (Nat.le_refl _) (by simp) ?_; (case hd => rfl); (case hg => rfl); (case hr => first | (go_simp; done) | (go_simp; rfl)); (case hp => exact (Reps.c3 (show Kd.M k31 _ _ _ (⟨(rd_T31 t266 x6_2).f0, (rd_T31 t266 x6_2).f1, (rd_T31 t266 x6_2).f2⟩ : S31) [.int .i64 ((rd_T31 t266 x6_2).f0), .int .i64 ((rd_T31 t266 x6_2).f1), .int .i64 ((rd_T31 t266 x6_2).f2)] from (k31_mkM _ _ _ (⟨(rd_T31 t266 x6_2).f0, (rd_T31 t266 x6_2).f1, (rd_T31 t266 x6_2).f2⟩ : S31) )) (Reps.none _ _)))
          intro v300 w48 ho49 hb hg_ hnew_
          have HS2_ := (hb.cell (World.block_lt_of_cell? _ _ (hHeld.2.2.1))).trans (hHeld.2.2.1)
          have HS3_ := (hb.cell (World.block_lt_of_cell? _ _ (hHeld.2.2.2.1))).trans (hHeld.2.2.2.1)
          have HS4_ := (hb.cell (World.block_lt_of_cell? _ _ (hHeld.2.2.2.2))).trans (hHeld.2.2.2.2)
          clear hg_ hnew_
          (first | rw [← Ny299.out] at ho49 | (simp only [Int.reduceToNat] at ho49; rw [← Ny299.out] at ho49))
          replace HO_270001 := Aside0.mk (rB3 HO_270001.out hb)
          have HO301 := Aside0.mk (Kd.R_lower (Kd.R_new' (Kd.R_new' (Kd.R_new' ho49 (Kd.R_lt HO_4.out)) (Kd.R_lt HO290.out)) (Kd.R_lt HO294.out)) (eZ3 HB.out))
          replace HO_4 := Aside0.mk (Kd.R_elder' HO_4.out (Kd.R_base ho49) hb)
          replace HO290 := Aside0.mk (Kd.R_elder' HO290.out (Kd.R_base ho49) hb)
          replace HO294 := Aside0.mk (Kd.R_elder' HO294.out (Kd.R_base ho49) hb)
          replace BK269 := kb_ BK269 hb
          replace HR280 := Aside0.mk (Kd.C_below (by repeat (first | (with_reducible exact HR280.out) | (with_reducible refine cA3 ?_ _) | (with_reducible refine cN3 ?_ _) | (with_reducible refine cD3 ?_) | exact HR280.out)) hb)
          replace HR287 := Aside0.mk (Kd.C_below (by repeat (first | (with_reducible exact HR287.out) | (with_reducible refine cA3 ?_ _) | (with_reducible refine cN3 ?_ _) | (with_reducible refine cD3 ?_) | exact HR287.out)) hb)
          replace HB := Aside0.mk (below_step HB.out hb)
          clear hb ho49
          refine hK.out _ _ ⟨ct_ BK269.out 0, ct_ BK269.out 1, HS2_, HS3_, HS4_⟩ (fun hHeld => ?_)
          clear hK K
          refine nm1_ (some 62) ?_
          refine one_ (i := 8) (N := some 57) z3_24 rfl rfl (one_of HT_.out (by kernel_rfl)) (by decide) (fun K hK => ?_)
          refine Kd.R_append_rows_step k31 (w0 := w) w.heap.size (by rfl) (.tmp 55) (.tmp 56) 26 31 (.agg #[(.int .i64 0), (.int .i64 0), (.int .i64 0)]) 24 rfl Try.underlying26 info31 rfl (by decide) (by omega) v293 y292 t266 _ _ _ (fun k_ => some k_ ≠ (.slice (some ad298) t266.length co10 : Value).ownBlock ∧ some k_ ≠ (.slice Ao43 y288.length co43 : Value).ownBlock ∧ some k_ ≠ (v300 : Value).ownBlock) (fun _ => False) rfl rfl ?aO ?aR (fun _ _ h => h) (fun _ h => h.elim) ?aF ?aB ?aS ?aL ?_
          (case aR => repeat (first | exact (rR3 HO_4.out).2.2 | (with_reducible refine cA3 ?_ _) | (with_reducible refine cN3 ?_ _) | (with_reducible refine cD3 ?_)))
          (case aB => exact HB.out)
          (case aF => exact (fun k_ hk => ⟨Kd.fresh' (Kd.R_lt HO_4.out) k_ hk, Kd.fresh' (Kd.R_lt HO290.out) k_ hk, Kd.fresh' (Kd.R_lt HO301.out) k_ hk⟩))
          (case aO => exact (by (with_reducible repeat (first | apply rA3 | apply rN3 | apply rD3)); exact Kd.R_mono HO294.out (fun _ hk => by first | exact ⟨hk.1.1.2, ⟨hk.1.2, hk.2⟩⟩ | trivial | simp_all)))
          (case aS => exact (eZ3 HB.out))
          (case aL => have := LMc32.out; omega)
          intro v296 w50 ho hb hg hat
          have HS2_ := cga_ hg (hHeld.2.2.1) HO294.out.1
          have HS3_ := cga_ hg (hHeld.2.2.2.1) HO294.out.1
          have HS4_ := cga_ hg (hHeld.2.2.2.2) HO294.out.1
          rw [← Ny295.out] at ho
          replace HO_270001 := Aside0.mk (Kd.R_over' HO_270001.out (Kd.R_typed HO294.out) (by decide) hg)
          replace BK269 := Aside0.mk (blk_grown (g := gb269) (o := .cells #[.int .i64 t262, .slice Ao9 t263.length co9] 25 (0, 0)) BK269.out hg (Kd.R_ne HO294.out BK269.out (by decide)))
          replace HO290 := Aside0.mk (Kd.R_after (ok := (fun k_ => some k_ ≠ (.slice (some ad298) t266.length co10 : Value).ownBlock ∧ some k_ ≠ (v300 : Value).ownBlock)) (by (with_reducible repeat (first | apply rA3 | apply rN3 | apply rD3)); exact Kd.R_mono HO290.out (fun _ hk => by first | exact ⟨⟨hk.1.1, hk.2⟩, hk.1.2⟩ | trivial | simp_all)) hg hat)
          replace HO301 := Aside0.mk (Kd.R_after (ok := (fun k_ => some k_ ≠ (.slice (some ad298) t266.length co10 : Value).ownBlock ∧ some k_ ≠ (.slice Ao43 y288.length co43 : Value).ownBlock)) (by (with_reducible repeat (first | apply rA3 | apply rN3 | apply rD3)); exact Kd.R_mono HO301.out (fun _ hk => by first | exact ⟨⟨hk.1.1.2, hk.1.2⟩, hk.2⟩ | trivial | simp_all)) hg hat)
          replace HB := Aside0.mk (hb)
          replace HR280 := Aside0.mk ((show Kd.C k31 w50 (some ad298) y277.length y277 from by rw [Ny277.out]; exact Kd.C_take (m := (x6_2 : Int).toNat) ((rR3 (Kd.R_after (ok := (fun k_ => some k_ ≠ (.slice Ao43 y288.length co43 : Value).ownBlock ∧ some k_ ≠ (v300 : Value).ownBlock)) (by (with_reducible repeat (first | apply rA3 | apply rN3 | apply rD3)); exact Kd.R_mono HO_4.out (fun _ hk => by first | exact ⟨⟨hk.1.1.2, hk.2⟩, hk.1.2⟩ | trivial | simp_all)) hg hat)).2.2) KL37.out))
          replace HR287 := Aside0.mk ((show Kd.C k31 w50 A38 y284.length y284 from by rw [Ny284.out, KA38.out]; exact Kd.C_drop (m := ((ji26) : Int).toNat) (c := co10) ((rR3 (Kd.R_after (ok := (fun k_ => some k_ ≠ (.slice Ao43 y288.length co43 : Value).ownBlock ∧ some k_ ≠ (v300 : Value).ownBlock)) (by (with_reducible repeat (first | apply rA3 | apply rN3 | apply rD3)); exact Kd.R_mono HO_4.out (fun _ hk => by first | exact ⟨⟨hk.1.1.2, hk.2⟩, hk.1.2⟩ | trivial | simp_all)) hg hat)).2.2) KL38.out ((rR3 (Kd.R_after (ok := (fun k_ => some k_ ≠ (.slice Ao43 y288.length co43 : Value).ownBlock ∧ some k_ ≠ (v300 : Value).ownBlock)) (by (with_reducible repeat (first | apply rA3 | apply rN3 | apply rD3)); exact Kd.R_mono HO_4.out (fun _ hk => by first | exact ⟨⟨hk.1.1.2, hk.2⟩, hk.1.2⟩ | trivial | simp_all)) hg hat)).2.1)))
          replace HO_4 := Aside0.mk (Kd.R_after (ok := (fun k_ => some k_ ≠ (.slice Ao43 y288.length co43 : Value).ownBlock ∧ some k_ ≠ (v300 : Value).ownBlock)) (by (with_reducible repeat (first | apply rA3 | apply rN3 | apply rD3)); exact Kd.R_mono HO_4.out (fun _ hk => by first | exact ⟨⟨hk.1.1.2, hk.2⟩, hk.1.2⟩ | trivial | simp_all)) hg hat)
          have HO297 := Aside0.mk (ho)
          clear HO294 ho hb hg hat
          refine hK.out _ _ ⟨ct_ BK269.out 0, ct_ BK269.out 1, HS2_, HS3_, HS4_⟩ (fun hHeld => ?_)
          clear hK K
          refine nm1_ (some 57) ?_
          exact norm_ (by simp only [putAll, Act.put, List.setIfInBounds_toArray, List.set_cons_zero, List.set_cons_succ]) (hCont (v293, v296, v300) _ ⟨hHeld, (by (with_reducible repeat (first | apply rA3 | apply rN3 | apply rD3)); exact Kd.R_mono HO290.out (fun _ hk => by first | exact ⟨hk.2, ⟨hk.1.2, hk.1.1⟩⟩ | trivial | simp_all)), (by (with_reducible repeat (first | apply rA3 | apply rN3 | apply rD3)); exact Kd.R_mono HO297.out (fun _ hk => by first | exact ⟨hk.2.1, ⟨hk.2.2, hk.1⟩⟩ | trivial | simp_all)), (by (with_reducible repeat (first | apply rA3 | apply rN3 | apply rD3)); exact Kd.R_mono HO301.out (fun _ hk => by first | exact ⟨hk.1.2, ⟨hk.2, hk.1.1⟩⟩ | trivial | simp_all)), HO_270001.out, (by (with_reducible repeat (first | apply rA3 | apply rN3 | apply rD3)); exact Kd.R_mono HO_4.out (fun _ hk => by first | exact ⟨hk.1.1, ⟨hk.2, hk.1.2⟩⟩ | trivial | simp_all)), BK269.out, HB.out⟩)
        ·skip
         refine Kd.R_lit_step k31 _ 31 ?hg (N := 62) ?hd (xs := ([(⟨(rd_T31 t266 x6_2).f0, (rd_T31 t266 x6_2).f1, (rd_T31 t266 x6_2).f2⟩ : S31)] : List (S31))) (inner := [.int .i64 ((rd_T31 t266 x6_2).f0), .int .i64 ((rd_T31 t266 x6_2).f1), .int .i64 ((rd_T31 t266 x6_2).f2)]) (ok := fun _ => True) (okp := fun _ => True) ?hr ?hp (fun _ hk => hk) trivial (Below.refl _ _) (Nat.le_refl _) (by simp) ?_; (case hd => rfl); (case hg => rfl); (case hr => first | (go_simp; done) | (go_simp; rfl)); (case hp => exact (Reps.c3 (show Kd.M k31 _ _ _ (⟨(rd_T31 t266 x6_2).f0, (rd_T31 t266 x6_2).f1, (rd_T31 t266 x6_2).f2⟩ : S31) [.int .i64 ((rd_T31 t266 x6_2).f0), .int .i64 ((rd_T31 t266 x6_2).f1), .int .i64 ((rd_T31 t266 x6_2).f2)] from (k31_mkM _ _ _ (⟨(rd_T31 t266 x6_2).f0, (rd_T31 t266 x6_2).f1, (rd_T31 t266 x6_2).f2⟩ : S31) )) (Reps.none _ _)))
         intro v300 w46 ho47 hb hg_ hnew_
         have HS2_ := (hb.cell (World.block_lt_of_cell? _ _ (hHeld.2.2.1))).trans (hHeld.2.2.1)
         have HS3_ := (hb.cell (World.block_lt_of_cell? _ _ (hHeld.2.2.2.1))).trans (hHeld.2.2.2.1)
         have HS4_ := (hb.cell (World.block_lt_of_cell? _ _ (hHeld.2.2.2.2))).trans (hHeld.2.2.2.2)
         clear hg_ hnew_
         (first | rw [← Ny299.out] at ho47 | (simp only [Int.reduceToNat] at ho47; rw [← Ny299.out] at ho47))
         replace HO_270001 := Aside0.mk (rB3 HO_270001.out hb)
         have HO301 := Aside0.mk (Kd.R_lower (Kd.R_new' (Kd.R_new' ho47 (Kd.R_lt HO_4.out)) (Kd.R_lt HO290.out)) (eZ3 HB.out))
         replace HO_4 := Aside0.mk (Kd.R_elder' HO_4.out (Kd.R_base ho47) hb)
         replace HO290 := Aside0.mk (Kd.R_elder' HO290.out (Kd.R_base ho47) hb)
         replace BK269 := kb_ BK269 hb
         replace HR280 := Aside0.mk (Kd.C_below (by repeat (first | (with_reducible exact HR280.out) | (with_reducible refine cA3 ?_ _) | (with_reducible refine cN3 ?_ _) | (with_reducible refine cD3 ?_) | exact HR280.out)) hb)
         replace HR287 := Aside0.mk (Kd.C_below (by repeat (first | (with_reducible exact HR287.out) | (with_reducible refine cA3 ?_ _) | (with_reducible refine cN3 ?_ _) | (with_reducible refine cD3 ?_) | exact HR287.out)) hb)
         replace HB := Aside0.mk (below_step HB.out hb)
         clear hb ho47
         refine hK.out _ _ ⟨ct_ BK269.out 0, ct_ BK269.out 1, HS2_, HS3_, HS4_⟩ (fun hHeld => ?_)
         clear hK K
         refine nm1_ (some 62) ?_
         refine one_ (i := 6) (N := some 55) z3_28 rfl rfl (one_of HT_.out (by kernel_rfl)) (by decide) (fun K hK => ?_)
         refine Kd.R_lit_step k31 _ 31 ?hg (N := 55) ?hd (xs := ([] : List (S31))) (inner := []) (ok := fun _ => True) (okp := fun _ => True) ?hr ?hp (fun _ hk => hk) trivial (Below.refl _ _) (Nat.le_refl _) (by simp) ?_; (case hd => rfl); (case hg => rfl); (case hr => first | (go_simp; done) | (go_simp; rfl)); (case hp => exact (Reps.none _ _))
         intro v293 w48 ho49 hb hg_ hnew_
         have HS2_ := (hb.cell (World.block_lt_of_cell? _ _ (hHeld.2.2.1))).trans (hHeld.2.2.1)
         have HS3_ := (hb.cell (World.block_lt_of_cell? _ _ (hHeld.2.2.2.1))).trans (hHeld.2.2.2.1)
         have HS4_ := (hb.cell (World.block_lt_of_cell? _ _ (hHeld.2.2.2.2))).trans (hHeld.2.2.2.2)
         clear hg_ hnew_
         (first | rw [← Ny292.out] at ho49 | (simp only [Int.reduceToNat] at ho49; rw [← Ny292.out] at ho49))
         replace HO_270001 := Aside0.mk (rB3 HO_270001.out hb)
         have HO294 := Aside0.mk (Kd.R_lower (Kd.R_new' (Kd.R_new' (Kd.R_new' ho49 (Kd.R_lt HO_4.out)) (Kd.R_lt HO290.out)) (Kd.R_lt HO301.out)) (eZ3 HB.out))
         replace HO_4 := Aside0.mk (Kd.R_elder' HO_4.out (Kd.R_base ho49) hb)
         replace HO290 := Aside0.mk (Kd.R_elder' HO290.out (Kd.R_base ho49) hb)
         replace HO301 := Aside0.mk (Kd.R_elder' HO301.out (Kd.R_base ho49) hb)
         replace BK269 := kb_ BK269 hb
         replace HR280 := Aside0.mk (Kd.C_below (by repeat (first | (with_reducible exact HR280.out) | (with_reducible refine cA3 ?_ _) | (with_reducible refine cN3 ?_ _) | (with_reducible refine cD3 ?_) | exact HR280.out)) hb)
         replace HR287 := Aside0.mk (Kd.C_below (by repeat (first | (with_reducible exact HR287.out) | (with_reducible refine cA3 ?_ _) | (with_reducible refine cN3 ?_ _) | (with_reducible refine cD3 ?_) | exact HR287.out)) hb)
         replace HB := Aside0.mk (below_step HB.out hb)
         clear hb ho49
         refine hK.out _ _ ⟨ct_ BK269.out 0, ct_ BK269.out 1, HS2_, HS3_, HS4_⟩ (fun hHeld => ?_)
         clear hK K
         refine nm1_ (some 55) ?_
         refine one_ (i := 8) (N := some 57) z3_24 rfl rfl (one_of HT_.out (by kernel_rfl)) (by decide) (fun K hK => ?_)
         refine Kd.R_append_rows_step k31 (w0 := w) w.heap.size (by rfl) (.tmp 55) (.tmp 56) 26 31 (.agg #[(.int .i64 0), (.int .i64 0), (.int .i64 0)]) 24 rfl Try.underlying26 info31 rfl (by decide) (by omega) v293 y292 t266 _ _ _ (fun k_ => some k_ ≠ (.slice (some ad298) t266.length co10 : Value).ownBlock ∧ some k_ ≠ (.slice Ao43 y288.length co43 : Value).ownBlock ∧ some k_ ≠ (v300 : Value).ownBlock) (fun _ => False) rfl rfl ?aO ?aR (fun _ _ h => h) (fun _ h => h.elim) ?aF ?aB ?aS ?aL ?_
         (case aR => repeat (first | exact (rR3 HO_4.out).2.2 | (with_reducible refine cA3 ?_ _) | (with_reducible refine cN3 ?_ _) | (with_reducible refine cD3 ?_)))
         (case aB => exact HB.out)
         (case aF => exact (fun k_ hk => ⟨Kd.fresh' (Kd.R_lt HO_4.out) k_ hk, Kd.fresh' (Kd.R_lt HO290.out) k_ hk, Kd.fresh' (Kd.R_lt HO301.out) k_ hk⟩))
         (case aO => exact (by (with_reducible repeat (first | apply rA3 | apply rN3 | apply rD3)); exact Kd.R_mono HO294.out (fun _ hk => by first | exact ⟨hk.1.1.2, ⟨hk.1.2, hk.2⟩⟩ | trivial | simp_all)))
         (case aS => exact (eZ3 HB.out))
         (case aL => have := LMc32.out; omega)
         intro v296 w50 ho hb hg hat
         have HS2_ := cga_ hg (hHeld.2.2.1) HO294.out.1
         have HS3_ := cga_ hg (hHeld.2.2.2.1) HO294.out.1
         have HS4_ := cga_ hg (hHeld.2.2.2.2) HO294.out.1
         rw [← Ny295.out] at ho
         replace HO_270001 := Aside0.mk (Kd.R_over' HO_270001.out (Kd.R_typed HO294.out) (by decide) hg)
         replace BK269 := Aside0.mk (blk_grown (g := gb269) (o := .cells #[.int .i64 t262, .slice Ao9 t263.length co9] 25 (0, 0)) BK269.out hg (Kd.R_ne HO294.out BK269.out (by decide)))
         replace HO290 := Aside0.mk (Kd.R_after (ok := (fun k_ => some k_ ≠ (.slice (some ad298) t266.length co10 : Value).ownBlock ∧ some k_ ≠ (v300 : Value).ownBlock)) HO290.out hg hat)
         replace HO301 := Aside0.mk (Kd.R_after (ok := (fun k_ => some k_ ≠ (.slice (some ad298) t266.length co10 : Value).ownBlock ∧ some k_ ≠ (.slice Ao43 y288.length co43 : Value).ownBlock)) (by (with_reducible repeat (first | apply rA3 | apply rN3 | apply rD3)); exact Kd.R_mono HO301.out (fun _ hk => by first | exact ⟨⟨hk.1.1.2, hk.1.2⟩, hk.2⟩ | trivial | simp_all)) hg hat)
         replace HB := Aside0.mk (hb)
         replace HR280 := Aside0.mk ((show Kd.C k31 w50 (some ad298) y277.length y277 from by rw [Ny277.out]; exact Kd.C_take (m := (x6_2 : Int).toNat) ((rR3 (Kd.R_after (ok := (fun k_ => some k_ ≠ (.slice Ao43 y288.length co43 : Value).ownBlock ∧ some k_ ≠ (v300 : Value).ownBlock)) (by (with_reducible repeat (first | apply rA3 | apply rN3 | apply rD3)); exact Kd.R_mono HO_4.out (fun _ hk => by first | exact ⟨⟨hk.1.1.2, hk.1.2⟩, hk.2⟩ | trivial | simp_all)) hg hat)).2.2) KL37.out))
         replace HR287 := Aside0.mk ((show Kd.C k31 w50 A38 y284.length y284 from by rw [Ny284.out, KA38.out]; exact Kd.C_drop (m := ((ji26) : Int).toNat) (c := co10) ((rR3 (Kd.R_after (ok := (fun k_ => some k_ ≠ (.slice Ao43 y288.length co43 : Value).ownBlock ∧ some k_ ≠ (v300 : Value).ownBlock)) (by (with_reducible repeat (first | apply rA3 | apply rN3 | apply rD3)); exact Kd.R_mono HO_4.out (fun _ hk => by first | exact ⟨⟨hk.1.1.2, hk.1.2⟩, hk.2⟩ | trivial | simp_all)) hg hat)).2.2) KL38.out ((rR3 (Kd.R_after (ok := (fun k_ => some k_ ≠ (.slice Ao43 y288.length co43 : Value).ownBlock ∧ some k_ ≠ (v300 : Value).ownBlock)) (by (with_reducible repeat (first | apply rA3 | apply rN3 | apply rD3)); exact Kd.R_mono HO_4.out (fun _ hk => by first | exact ⟨⟨hk.1.1.2, hk.1.2⟩, hk.2⟩ | trivial | simp_all)) hg hat)).2.1)))
         replace HO_4 := Aside0.mk (Kd.R_after (ok := (fun k_ => some k_ ≠ (.slice Ao43 y288.length co43 : Value).ownBlock ∧ some k_ ≠ (v300 : Value).ownBlock)) (by (with_reducible repeat (first | apply rA3 | apply rN3 | apply rD3)); exact Kd.R_mono HO_4.out (fun _ hk => by first | exact ⟨⟨hk.1.1.2, hk.1.2⟩, hk.2⟩ | trivial | simp_all)) hg hat)
         have HO297 := Aside0.mk (ho)
         clear HO294 ho hb hg hat
         refine hK.out _ _ ⟨ct_ BK269.out 0, ct_ BK269.out 1, HS2_, HS3_, HS4_⟩ (fun hHeld => ?_)
         clear hK K
         refine nm1_ (some 57) ?_
         exact norm_ (by simp only [putAll, Act.put, List.setIfInBounds_toArray, List.set_cons_zero, List.set_cons_succ]) (hCont (v293, v296, v300) _ ⟨hHeld, (by (with_reducible repeat (first | apply rA3 | apply rN3 | apply rD3)); exact Kd.R_mono HO290.out (fun _ hk => by first | exact ⟨hk.2, ⟨hk.1.2, hk.1.1⟩⟩ | trivial | simp_all)), (by (with_reducible repeat (first | apply rA3 | apply rN3 | apply rD3)); exact Kd.R_mono HO297.out (fun _ hk => by first | exact ⟨hk.2.1, ⟨hk.2.2, hk.1⟩⟩ | trivial | simp_all)), (by (with_reducible repeat (first | apply rA3 | apply rN3 | apply rD3)); exact Kd.R_mono HO301.out (fun _ hk => by first | exact ⟨hk.1.2, ⟨hk.2, hk.1.1⟩⟩ | trivial | simp_all)), HO_270001.out, (by (with_reducible repeat (first | apply rA3 | apply rN3 | apply rD3)); exact Kd.R_mono HO_4.out (fun _ hk => by first | exact ⟨hk.1.1, ⟨hk.2, hk.1.2⟩⟩ | trivial | simp_all)), BK269.out, HB.out⟩)
       rintro ⟨v293, v296, v300⟩ w51 ⟨hS_, h0_, h1_, h2_, h3_, h4_, h5_, h6_⟩
       replace HO290 : Aside0 (Kd.R k31 31 w51 w.heap.size (fun k_ => some k_ ≠ (v296 : Value).ownBlock ∧ some k_ ≠ (v300 : Value).ownBlock ∧ some k_ ≠ (.slice (some ad298) t266.length co10 : Value).ownBlock) (.slice Ao43 y288.length co43) y288) := ⟨h0_⟩
       have HO297 : Aside0 (Kd.R k31 31 w51 w.heap.size (fun k_ => some k_ ≠ (.slice Ao43 y288.length co43 : Value).ownBlock ∧ some k_ ≠ (v300 : Value).ownBlock ∧ some k_ ≠ (.slice (some ad298) t266.length co10 : Value).ownBlock) v296 y295) := ⟨h1_⟩
       have HO301 : Aside0 (Kd.R k31 31 w51 w.heap.size (fun k_ => some k_ ≠ (.slice Ao43 y288.length co43 : Value).ownBlock ∧ some k_ ≠ (v296 : Value).ownBlock ∧ some k_ ≠ (.slice (some ad298) t266.length co10 : Value).ownBlock) v300 y299) := ⟨h2_⟩
       replace HO_270001 : Aside0 (Kd.R k33 33 w51 w.heap.size (fun _ => True) (.slice Ao9 t263.length co9) t263) := ⟨h3_⟩
       replace HO_4 : Aside0 (Kd.R k31 31 w51 w.heap.size (fun k_ => some k_ ≠ (.slice Ao43 y288.length co43 : Value).ownBlock ∧ some k_ ≠ (v296 : Value).ownBlock ∧ some k_ ≠ (v300 : Value).ownBlock) (.slice (some ad298) t266.length co10) t266) := ⟨h4_⟩
       replace BK269 : Aside0 (w51.heap[gb269]? = some (.cells #[.int .i64 t262, .slice Ao9 t263.length co9] 25 (0, 0))) := ⟨h5_⟩
       replace HB : Aside0 (Below w.heap.size w w51) := ⟨h6_⟩
       clear HR280 HR287 h0_ h1_ h2_ h3_ h4_ h5_ h6_
       have hHeld : w51.cell? ⟨gb269, 0, none⟩ = some (.int .i64 t262) ∧ w51.cell? ⟨gb269, 1, none⟩ = some (.slice Ao9 t263.length co9) ∧ w51.cell? (ad298.add ((x6_2).toNat * 3)) = some (.int .i64 ((rd_T31 t266 x6_2).f0)) ∧ w51.cell? ⟨(ad298.add ((x6_2).toNat * 3)).block, (ad298.add ((x6_2).toNat * 3)).off + 1, none⟩ = some (.int .i64 ((rd_T31 t266 x6_2).f1)) ∧ w51.cell? ⟨(ad298.add ((x6_2).toNat * 3)).block, (ad298.add ((x6_2).toNat * 3)).off + 2, none⟩ = some (.int .i64 ((rd_T31 t266 x6_2).f2)) := hS_
       obtain ⟨Ao53, co53, eo53⟩ := Kd.R_slice HO301.out
       (first | subst eo53 | (injection eo53 with f1_ f2_ f3_; have f4_ := f1_.symm; have f5_ := f3_.symm; clear f1_ f2_ f3_; subst f4_; subst f5_))
       refine nm2_ ?_
       refine one_ (i := 14) (N := some 63) z3_29 rfl rfl (one_of HT_.out (by kernel_rfl)) (by decide) (fun K hK => ?_)
       refine Kd.R_append_rows_step k31 (w0 := w) w.heap.size (by rfl) (.tmp 57) (.tmp 62) 26 31 (.agg #[(.int .i64 0), (.int .i64 0), (.int .i64 0)]) 24 rfl Try.underlying26 info31 rfl (by decide) (by omega) v296 y295 y299 _ _ _ (fun k_ => some k_ ≠ (.slice (some ad298) t266.length co10 : Value).ownBlock ∧ some k_ ≠ (.slice Ao43 y288.length co43 : Value).ownBlock ∧ some k_ ≠ (.slice Ao53 y299.length co53 : Value).ownBlock) (fun _ => False) rfl rfl ?aO ?aR (fun _ _ h => h) (fun _ h => h.elim) ?aF ?aB ?aS ?aL ?_
       (case aR => repeat (first | exact (rR3 HO301.out).2.2 | (with_reducible refine cA3 ?_ _) | (with_reducible refine cN3 ?_ _) | (with_reducible refine cD3 ?_)))
       (case aB => exact HB.out)
       (case aF => exact (fun k_ hk => ⟨Kd.fresh' (Kd.R_lt HO_4.out) k_ hk, Kd.fresh' (Kd.R_lt HO290.out) k_ hk, Kd.fresh' (Kd.R_lt HO301.out) k_ hk⟩))
       (case aO => exact (by (with_reducible repeat (first | apply rA3 | apply rN3 | apply rD3)); exact Kd.R_mono HO297.out (fun _ hk => by first | exact ⟨hk.2.2, ⟨hk.1, hk.2.1⟩⟩ | trivial | simp_all)))
       (case aS => exact (eZ3 HB.out))
       (case aL => have := LMc33.out; omega)
       intro v303 w52 ho hb hg hat
       have HS2_ := cga_ hg (hHeld.2.2.1) HO297.out.1
       have HS3_ := cga_ hg (hHeld.2.2.2.1) HO297.out.1
       have HS4_ := cga_ hg (hHeld.2.2.2.2) HO297.out.1
       rw [← Ny302.out] at ho
       replace HO_4 := Aside0.mk (Kd.R_after (ok := (fun k_ => some k_ ≠ (.slice Ao43 y288.length co43 : Value).ownBlock ∧ some k_ ≠ (.slice Ao53 y299.length co53 : Value).ownBlock)) (by (with_reducible repeat (first | apply rA3 | apply rN3 | apply rD3)); exact Kd.R_mono HO_4.out (fun _ hk => by first | exact ⟨⟨hk.1, hk.2.2⟩, hk.2.1⟩ | trivial | simp_all)) hg hat)
       replace HO_270001 := Aside0.mk (Kd.R_over' HO_270001.out (Kd.R_typed HO297.out) (by decide) hg)
       replace BK269 := Aside0.mk (blk_grown (g := gb269) (o := .cells #[.int .i64 t262, .slice Ao9 t263.length co9] 25 (0, 0)) BK269.out hg (Kd.R_ne HO297.out BK269.out (by decide)))
       replace HO290 := Aside0.mk (Kd.R_after (ok := (fun k_ => some k_ ≠ (.slice (some ad298) t266.length co10 : Value).ownBlock ∧ some k_ ≠ (.slice Ao53 y299.length co53 : Value).ownBlock)) (by (with_reducible repeat (first | apply rA3 | apply rN3 | apply rD3)); exact Kd.R_mono HO290.out (fun _ hk => by first | exact ⟨⟨hk.2.2, hk.2.1⟩, hk.1⟩ | trivial | simp_all)) hg hat)
       replace HO301 := Aside0.mk (Kd.R_after (ok := (fun k_ => some k_ ≠ (.slice (some ad298) t266.length co10 : Value).ownBlock ∧ some k_ ≠ (.slice Ao43 y288.length co43 : Value).ownBlock)) (by (with_reducible repeat (first | apply rA3 | apply rN3 | apply rD3)); exact Kd.R_mono HO301.out (fun _ hk => by first | exact ⟨⟨hk.2.2, hk.1⟩, hk.2.1⟩ | trivial | simp_all)) hg hat)
       replace HB := Aside0.mk (hb)
       have HO304 := Aside0.mk (ho)
       clear HO297 ho hb hg hat
       obtain ⟨Ao54, co54, eo54⟩ := Kd.R_slice HO304.out
       (first | subst eo54 | (injection eo54 with f1_ f2_ f3_; have f4_ := f1_.symm; have f5_ := f3_.symm; clear f1_ f2_ f3_; subst f4_; subst f5_))
       refine hK.out _ _ ⟨ct_ BK269.out 0, ct_ BK269.out 1, HS2_, HS3_, HS4_⟩ (fun hHeld => ?_)
       clear hK K
       refine nm1_ (some 63) ?_
       refine one_ (i := 15) (N := some 64) z3_30 rfl rfl (one_of HT_.out (by kernel_rfl)) (by decide) (fun K hK => ?_)
       refine go_ Try.func5 #[.agg #[.int .i64 t262, .slice Ao9 t263.length co9], .slice Ao54 y302.length co54] ?_
       with_reducible refine (impl_TurnsOk.calls k2 t262 _ _ t263 _ _ y302 true _ ?side1 ?side2 ?side3 ?side4 A34.out).mono ?_
       (case side1 => exact nc_ (rR3 HO_270001.out).2.2)
       (case side2 => exact (rR3 HO_270001.out).2.1)
       (case side3 => exact nc_ (rR3 HO304.out).2.2)
       (case side4 => exact (rR3 HO304.out).2.1)
       rintro e w55 ⟨rfl, hb⟩
       have HS2_ := (hb.cell (World.block_lt_of_cell? _ _ (hHeld.2.2.1))).trans (hHeld.2.2.1)
       have HS3_ := (hb.cell (World.block_lt_of_cell? _ _ (hHeld.2.2.2.1))).trans (hHeld.2.2.2.1)
       have HS4_ := (hb.cell (World.block_lt_of_cell? _ _ (hHeld.2.2.2.2))).trans (hHeld.2.2.2.2)
       refine ⟨_, rfl, ?_⟩
       replace HO_4 := Aside0.mk (rB3 HO_4.out hb)
       replace HO_270001 := Aside0.mk (rB3 HO_270001.out hb)
       replace HO290 := Aside0.mk (rB3 HO290.out hb)
       replace HO301 := Aside0.mk (rB3 HO301.out hb)
       replace HO304 := Aside0.mk (rB3 HO304.out hb)
       replace BK269 := kb_ BK269 hb
       replace HB := Aside0.mk (below_step HB.out hb)
       (try clear hb)
       (try clear hb2)
       (try clear hk)
       (try clear hi)
       refine hK.out _ _ ⟨ct_ BK269.out 0, ct_ BK269.out 1, HS2_, HS3_, HS4_⟩ (fun hHeld => ?_)
       clear hK K
       refine nm1_ (some 64) ?_
       refine pu_ 16 65 z3_31 HT_.out ?_
       refine pu_ 17 66 z3_32 HT_.out ?_
       refine un_ 18 67 z3_33 HT_.out ?_
       refine un_ 19 68 z3_34 HT_.out ?_
       refine un_ 20 69 z3_35 HT_.out ?_
       refine un_ 21 70 z3_36 HT_.out ?_
       refine un_ 22 71 z3_37 HT_.out ?_
       refine un_ 23 72 z3_38 HT_.out ?_
       refine un_ 24 73 z3_39 HT_.out ?_
       refine un_ 25 74 z3_40 HT_.out ?_
       refine un_ 26 75 z3_41 HT_.out ?_
       refine un_ 27 76 z3_42 HT_.out ?_
       refine un_ 28 77 z3_43 HT_.out ?_
       refine un_ 29 78 z3_44 HT_.out ?_
       refine un_ 30 79 z3_45 HT_.out ?_
       refine un_ 31 80 z3_46 HT_.out ?_
       refine un_ 32 81 z3_47 HT_.out ?_
       refine un_ 33 82 z3_48 HT_.out ?_
       refine un_ 34 83 z3_49 HT_.out ?_
       refine un_ 35 84 z3_50 HT_.out ?_
       refine un_ 36 85 z3_51 HT_.out ?_
       refine un_ 37 86 z3_52 HT_.out ?_
       refine un_ 38 87 z3_53 HT_.out ?_
       refine pu_ 39 88 z3_54 HT_.out ?_
       refine done_ (done_of HT_.out (by kernel_rfl)) ?_
       try go_wp2
       all_goals go_ret
       all_goals exact ⟨by first | rfl | (simp [errW_none, errW_some] <;> rfl) | (simp only [← hji26]; first | rfl | (simp [errW_none, errW_some] <;> rfl)) | (simp [*, errW_none, errW_some] <;> rfl), ne_ HB.out⟩
      replace c35 := Bool.eq_false_iff.mpr c35
      subst c35
      have H1 : (if 0 ≤ ((rd_T31 t266 x6_2).f0) then (if ((rd_T31 t266 x6_2).f0) < (t263.length : Int) then (if 0 ≤ ((rd_T31 t266 x6_2).f1) then (if ((rd_T31 t266 x6_2).f1) < (t263.length : Int) then (if ((rd_T33 t263 ((rd_T31 t266 x6_2).f0)).f1) = ((rd_T33 t263 ((rd_T31 t266 x6_2).f1)).f0) then (laws_FnTurnsOk.l0 k2 t266 ji26 t262 t263) else (some false)) else (none)) else (none)) else (none)) else (none)) = some r := by rw [if_neg (show ¬ (false = true) by decide)] at H; exact H
      clear H
      have H := H1
      clear H1
      by_cases c56 : 0 ≤ ((rd_T31 t266 x6_2).f0)
      rotate_left
      ·rw [if_neg c56] at H
       exact absurd H (by simp)
      rw [if_pos c56] at H
      have c56b0 : decide (0 ≤ ((rd_T31 t266 x6_2).f0)) = true := decide_eq_true c56
      clear c56
      by_cases c57 : ((rd_T31 t266 x6_2).f0) < (t263.length : Int)
      rotate_left
      ·rw [if_neg c57] at H
       exact absurd H (by simp)
      rw [if_pos c57] at H
      have c57b0 : decide (((rd_T31 t266 x6_2).f0) < (t263.length : Int)) = true := decide_eq_true c57
      clear c57
      by_cases c58 : 0 ≤ ((rd_T31 t266 x6_2).f1)
      rotate_left
      ·rw [if_neg c58] at H
       exact absurd H (by simp)
      rw [if_pos c58] at H
      have c58b0 : decide (0 ≤ ((rd_T31 t266 x6_2).f1)) = true := decide_eq_true c58
      clear c58
      by_cases c59 : ((rd_T31 t266 x6_2).f1) < (t263.length : Int)
      rotate_left
      ·rw [if_neg c59] at H
       exact absurd H (by simp)
      rw [if_pos c59] at H
      have c59b0 : decide (((rd_T31 t266 x6_2).f1) < (t263.length : Int)) = true := decide_eq_true c59
      clear c59
      by_cases c60 : ((rd_T33 t263 ((rd_T31 t266 x6_2).f0)).f1) = ((rd_T33 t263 ((rd_T31 t266 x6_2).f1)).f0)
      rotate_left
      ·rw [if_neg c60] at H
       have c60b0 : (((rd_T33 t263 ((rd_T31 t266 x6_2).f0)).f1) == ((rd_T33 t263 ((rd_T31 t266 x6_2).f1)).f0)) = false := beq_eq_false_iff_ne.mpr c60
       have c60b1 : (((rd_T33 t263 ((rd_T31 t266 x6_2).f0)).f1) != ((rd_T33 t263 ((rd_T31 t266 x6_2).f1)).f0)) = true := bne_iff_ne.mpr c60
       obtain rfl := Option.some.inj H
       try go_wp2
       replace HO_4 := Aside0.mk (rD3 HO_4.out)
       replace HO_270001 := Aside0.mk (rD3 HO_270001.out)
       replace BK269 := Aside0.mk (blk_drew BK269.out)
       replace HB := Aside0.mk (below_drew1 HB.out)
       have q82 : (x6_2 : Int) ≤ ((t266.length : Int) : Int) := of_decide_eq_true nx_
       obtain ⟨i082, hi082, _, hsz82, _⟩ := info_parts info31
       have hroom82 : t266.length ≤ co10 := (rR3 HO_4.out).2.1
       have hC82 : Kd.C k31 _ Ao10 t266.length t266 := (rR3 HO_4.out).2.2
       have hcut82 := cut_to (P := Try.prog) 26 31 .i64 Try.underlying26 hi082 Ao10 t266.length co10 x6_2 (of_decide_eq_true nx_) q82 hroom82
       have hr82 := Kd.C_take (m := (x6_2 : Int).toNat) hC82 (by omega)
       have hy82 : y277.length = (x6_2 : Int).toNat := (by rw [Ny277.out, List.length_take]; omega)
       rw [← Ny277.out] at hr82
       rw [← hy82] at hcut82
       have HR280 := Aside0.mk hr82
       have HC280 := Aside0.mk (show y277.length ≤ co10 from by omega)
       clear hr82 hC82 hroom82 hi082 hsz82
       have KY82 := Aside0.mk hy82
       clear hy82
       have KL82 := Aside0.mk (show (x6_2 : Int).toNat ≤ t266.length from by omega)
       replace q82 := eq_true q82
       have q83 : ((ji26) : Int) ≤ ((t266.length : Int) : Int) := of_decide_eq_true nx_
       obtain ⟨i083, hi083, _, hsz83, _⟩ := info_parts info31
       have hroom83 : t266.length ≤ co10 := (rR3 HO_4.out).2.1
       have hC83 : Kd.C k31 _ Ao10 t266.length t266 := (rR3 HO_4.out).2.2
       have q083 : (0 : Int) ≤ ((ji26) : Int) := of_decide_eq_true nx_
       have hcut83 := cut_from (P := Try.prog) 26 31 .i64 Try.underlying26 hi083 3 hsz83 Ao10 t266.length co10 (ji26) q083 q83
       have hr83 := Kd.C_drop (m := ((ji26) : Int).toNat) (c := co10) hC83 (by omega) hroom83
       obtain ⟨A83, hA83⟩ : ∃ A1, A1 = (if co10 = ((ji26) : Int).toNat then Ao10 else (Ao10 : Option Addr).map (·.add (((ji26) : Int).toNat * 3))) := ⟨_, rfl⟩
       obtain ⟨c83, hc83⟩ : ∃ c1, c1 = co10 - ((ji26) : Int).toNat := ⟨_, rfl⟩
       have hy83 : y284.length = t266.length - ((ji26) : Int).toNat := (by rw [Ny284.out, List.length_drop] <;> omega)
       rw [show (t266).drop ((ji26) : Int).toNat = y284 from Ny284.out.symm] at hr83
       replace hr83 : Kd.C k31 _ A83 y284.length y284 := (by rw [hA83]; exact hr83)
       rw [← hy83, ← hA83, ← hc83] at hcut83
       have HR287 := Aside0.mk hr83
       have HC287 := Aside0.mk (show y284.length ≤ c83 from by rw [hy83, hc83]; exact Nat.sub_le_sub_right hroom83 _)
       clear hr83 hC83 hroom83 hi083 hsz83
       have KC83 := Aside0.mk hc83
       clear hc83
       have KY83 := Aside0.mk hy83
       have KA83 := Aside0.mk hA83
       clear hy83 hA83
       have KL83 := Aside0.mk (show ((ji26) : Int).toNat ≤ t266.length from by omega)
       replace q83 := eq_true q83
       refine start_ (n := 11) (S := fun w' => True) (ds := []) z3_0 (by kernel_rfl) rfl rfl trivial (fun hHeld => ?_); refine with_tabW laws_FnTurnsOk.tab10 laws_FnTurnsOk.bits10 (fun HT_ HW_ => ?_)
       generalize wr.drew = w81 at HO_4 HO_270001 BK269 HB HR280 HR287 hHeld ⊢
       refine pu_ 1 40 z3_1 HT_.out ?_
       refine pu_ 2 41 z3_2 HT_.out ?_
       refine pu_ 3 42 z3_3 HT_.out ?_
       refine pu_ 5 44 z3_4 HT_.out ?_
       refine pu_ 6 45 z3_5 HT_.out ?_
       refine pu_ 7 46 z3_6 HT_.out ?_
       refine pu_ 8 47 z3_7 HT_.out ?_
       refine one_ (i := 0) (N := some 39) z3_8 rfl rfl (one_of HT_.out (by kernel_rfl)) (by decide) (fun K hK => ?_)
       refine Kd.R_lit_step k31 _ 31 ?hg (N := 39) ?hd (xs := ([] : List (S31))) (inner := []) (ok := fun _ => True) (okp := fun _ => True) ?hr ?hp (fun _ hk => hk) trivial (Below.refl _ _) (Nat.le_refl _) (by simp) ?_; (case hd => rfl); (case hg => rfl); (case hr => first | (go_simp; done) | (go_simp; rfl)); (case hp => exact (Reps.none _ _))
       intro v275 w84 ho85 hb hg_ hnew_
       clear hg_ hnew_
       (first | rw [← Ny274.out] at ho85 | (simp only [Int.reduceToNat] at ho85; rw [← Ny274.out] at ho85))
       replace HO_270001 := Aside0.mk (rB3 HO_270001.out hb)
       have HO276 := Aside0.mk (Kd.R_lower (Kd.R_new' ho85 (Kd.R_lt HO_4.out)) (eZ3 HB.out))
       replace HO_4 := Aside0.mk (Kd.R_elder' HO_4.out (Kd.R_base ho85) hb)
       replace BK269 := kb_ BK269 hb
       replace HR280 := Aside0.mk (Kd.C_below (by repeat (first | (with_reducible exact HR280.out) | (with_reducible refine cA3 ?_ _) | (with_reducible refine cN3 ?_ _) | (with_reducible refine cD3 ?_) | exact HR280.out)) hb)
       replace HR287 := Aside0.mk (Kd.C_below (by repeat (first | (with_reducible exact HR287.out) | (with_reducible refine cA3 ?_ _) | (with_reducible refine cN3 ?_ _) | (with_reducible refine cD3 ?_) | exact HR287.out)) hb)
       replace HB := Aside0.mk (below_step HB.out hb)
       clear hb ho85
       refine hK.out _ _ trivial (fun hHeld => ?_)
       clear hK K
       refine nm1_ (some 39) ?_
       refine one_ (i := 4) (N := some 43) z3_9 rfl rfl (one_of HT_.out (by kernel_rfl)) (by decide) (fun K hK => ?_)
       refine Kd.R_append_rows_step k31 (w0 := w) w.heap.size (by rfl) (.tmp 39) (.tmp 42) 26 31 (.agg #[(.int .i64 0), (.int .i64 0), (.int .i64 0)]) 24 rfl Try.underlying26 info31 rfl (by decide) (by omega) v275 y274 y277 _ _ _ (fun k_ => some k_ ≠ (.slice Ao10 t266.length co10 : Value).ownBlock) (fun _ => False) rfl rfl ?aO ?aR (fun _ _ h => h) (fun _ h => h.elim) ?aF ?aB ?aS ?aL ?_
       (case aR => repeat (first | exact (by repeat (first | (with_reducible exact HR280.out) | (with_reducible refine cA3 ?_ _) | (with_reducible refine cN3 ?_ _) | (with_reducible refine cD3 ?_) | exact HR280.out)) | (with_reducible refine cA3 ?_ _) | (with_reducible refine cN3 ?_ _) | (with_reducible refine cD3 ?_)))
       (case aB => exact HB.out)
       (case aF => exact (fun k_ hk => Kd.fresh' (Kd.R_lt HO_4.out) k_ hk))
       (case aO => exact (by (with_reducible repeat (first | apply rA3 | apply rN3 | apply rD3)); exact Kd.R_mono HO276.out (fun _ hk => by first | exact hk.2 | trivial | simp_all)))
       (case aS => exact (eZ3 HB.out))
       (case aL => have := LMc25.out; omega)
       intro v282 w86 ho hb hg hat
       rw [← Ny281.out] at ho
       replace HO_270001 := Aside0.mk (Kd.R_over' HO_270001.out (Kd.R_typed HO276.out) (by decide) hg)
       replace BK269 := Aside0.mk (blk_grown (g := gb269) (o := .cells #[.int .i64 t262, .slice Ao9 t263.length co9] 25 (0, 0)) BK269.out hg (Kd.R_ne HO276.out BK269.out (by decide)))
       replace HB := Aside0.mk (hb)
       replace HR280 := Aside0.mk ((show Kd.C k31 w86 Ao10 y277.length y277 from by rw [Ny277.out]; exact Kd.C_take (m := (x6_2 : Int).toNat) ((rR3 (Kd.R_after (ok := (fun _ => True)) HO_4.out hg hat)).2.2) KL82.out))
       replace HR287 := Aside0.mk ((show Kd.C k31 w86 A83 y284.length y284 from by rw [Ny284.out, KA83.out]; exact Kd.C_drop (m := ((ji26) : Int).toNat) (c := co10) ((rR3 (Kd.R_after (ok := (fun _ => True)) HO_4.out hg hat)).2.2) KL83.out ((rR3 (Kd.R_after (ok := (fun _ => True)) HO_4.out hg hat)).2.1)))
       replace HO_4 := Aside0.mk (Kd.R_after (ok := (fun _ => True)) HO_4.out hg hat)
       have HO283 := Aside0.mk (ho)
       clear HO276 ho hb hg hat
       refine hK.out _ _ trivial (fun hHeld => ?_)
       clear hK K
       refine nm1_ (some 43) ?_
       refine one_ (i := 9) (N := some 48) z3_10 rfl rfl (one_of HT_.out (by kernel_rfl)) (by decide) (fun K hK => ?_)
       refine Kd.R_append_rows_step k31 (w0 := w) w.heap.size (by rfl) (.tmp 43) (.tmp 47) 26 31 (.agg #[(.int .i64 0), (.int .i64 0), (.int .i64 0)]) 24 rfl Try.underlying26 info31 rfl (by decide) (by omega) v282 y281 y284 _ _ _ (fun k_ => some k_ ≠ (.slice Ao10 t266.length co10 : Value).ownBlock) (fun _ => False) rfl rfl ?aO ?aR (fun _ _ h => h) (fun _ h => h.elim) ?aF ?aB ?aS ?aL ?_
       (case aR => repeat (first | exact (by repeat (first | (with_reducible exact HR287.out) | (with_reducible refine cA3 ?_ _) | (with_reducible refine cN3 ?_ _) | (with_reducible refine cD3 ?_) | exact HR287.out)) | (with_reducible refine cA3 ?_ _) | (with_reducible refine cN3 ?_ _) | (with_reducible refine cD3 ?_)))
       (case aB => exact HB.out)
       (case aF => exact (fun k_ hk => Kd.fresh' (Kd.R_lt HO_4.out) k_ hk))
       (case aO => exact HO283.out)
       (case aS => exact (eZ3 HB.out))
       (case aL => have := LMc29.out; omega)
       intro v289 w87 ho hb hg hat
       rw [← Ny288.out] at ho
       replace HO_270001 := Aside0.mk (Kd.R_over' HO_270001.out (Kd.R_typed HO283.out) (by decide) hg)
       replace BK269 := Aside0.mk (blk_grown (g := gb269) (o := .cells #[.int .i64 t262, .slice Ao9 t263.length co9] 25 (0, 0)) BK269.out hg (Kd.R_ne HO283.out BK269.out (by decide)))
       replace HB := Aside0.mk (hb)
       replace HR280 := Aside0.mk ((show Kd.C k31 w87 Ao10 y277.length y277 from by rw [Ny277.out]; exact Kd.C_take (m := (x6_2 : Int).toNat) ((rR3 (Kd.R_after (ok := (fun _ => True)) HO_4.out hg hat)).2.2) KL82.out))
       replace HR287 := Aside0.mk ((show Kd.C k31 w87 A83 y284.length y284 from by rw [Ny284.out, KA83.out]; exact Kd.C_drop (m := ((ji26) : Int).toNat) (c := co10) ((rR3 (Kd.R_after (ok := (fun _ => True)) HO_4.out hg hat)).2.2) KL83.out ((rR3 (Kd.R_after (ok := (fun _ => True)) HO_4.out hg hat)).2.1)))
       replace HO_4 := Aside0.mk (Kd.R_after (ok := (fun _ => True)) HO_4.out hg hat)
       have HO290 := Aside0.mk (ho)
       clear HO283 ho hb hg hat
       refine hK.out _ _ trivial (fun hHeld => ?_)
       clear hK K
       refine nm1_ (some 48) ?_
       refine pu_ 10 7 z3_11 HT_.out ?_
       refine done_ (done_of HT_.out (by kernel_rfl)) ?_
       obtain ⟨Ao88, co88, eo88⟩ := Kd.R_slice HO290.out
       subst eo88
       try go_wp2
       replace HO_4 := Aside0.mk (rD3 HO_4.out)
       replace HO_270001 := Aside0.mk (rD3 HO_270001.out)
       replace HO290 := Aside0.mk (rD3 HO290.out)
       replace BK269 := Aside0.mk (blk_drew BK269.out)
       replace HR280 := Aside0.mk (cD3 HR280.out)
       replace HR287 := Aside0.mk (cD3 HR287.out)
       replace HB := Aside0.mk (below_drew1 HB.out)
       have p298 : 0 ≤ (x6_2 : Int) := of_decide_eq_true nx_
       have q298 : x6_2 < (t266.length : Int) := of_decide_eq_true nx_
       obtain ⟨ad298, e298, hx298_0, hx298_1, hx298_2⟩ := at_T31 (rR3 HO_4.out).2.2 x6_2 p298 q298
       cases e298
       replace p298 := eq_true p298
       replace q298 := eq_true q298
       have p306 : 0 ≤ (x6_2 : Int) := of_decide_eq_true nx_
       have q306 : x6_2 < (t266.length : Int) := of_decide_eq_true nx_
       obtain ⟨ad306, e306, hx306_0, hx306_1, hx306_2⟩ := at_T31 (rR3 HO_4.out).2.2 x6_2 p306 q306
       obtain rfl : ad298 = ad306 := (by injection e306)
       replace p306 := eq_true p306
       replace q306 := eq_true q306
       have p307 : 0 ≤ (((rd_T31 t266 x6_2).f0) : Int) := of_decide_eq_true nx_
       have q307 : ((rd_T31 t266 x6_2).f0) < (t263.length : Int) := of_decide_eq_true nx_
       obtain ⟨ad307, e307, hx307_0, hx307_1, hx307_2, hx307_3, hx307_4⟩ := at_T33 (rR3 HO_270001.out).2.2 ((rd_T31 t266 x6_2).f0) p307 q307
       cases e307
       replace p307 := eq_true p307
       replace q307 := eq_true q307
       have p308 : 0 ≤ (x6_2 : Int) := of_decide_eq_true nx_
       have q308 : x6_2 < (t266.length : Int) := of_decide_eq_true nx_
       obtain ⟨ad308, e308, hx308_0, hx308_1, hx308_2⟩ := at_T31 (rR3 HO_4.out).2.2 x6_2 p308 q308
       obtain rfl : ad298 = ad308 := (by injection e308)
       replace p308 := eq_true p308
       replace q308 := eq_true q308
       have p309 : 0 ≤ (((rd_T31 t266 x6_2).f1) : Int) := of_decide_eq_true nx_
       have q309 : ((rd_T31 t266 x6_2).f1) < (t263.length : Int) := of_decide_eq_true nx_
       obtain ⟨ad309, e309, hx309_0, hx309_1, hx309_2, hx309_3, hx309_4⟩ := at_T33 (rR3 HO_270001.out).2.2 ((rd_T31 t266 x6_2).f1) p309 q309
       obtain rfl : ad307 = ad309 := (by injection e309)
       replace p309 := eq_true p309
       replace q309 := eq_true q309
       refine start_ (n := 40) (S := fun w' => w'.cell? ⟨gb269, 0, none⟩ = some (.int .i64 t262) ∧ w'.cell? ⟨gb269, 1, none⟩ = some (.slice (some ad307) t263.length co9) ∧ w'.cell? (ad298.add ((x6_2).toNat * 3)) = some (.int .i64 ((rd_T31 t266 x6_2).f0)) ∧ w'.cell? ⟨(ad298.add ((x6_2).toNat * 3)).block, (ad298.add ((x6_2).toNat * 3)).off + 1, none⟩ = some (.int .i64 ((rd_T31 t266 x6_2).f1)) ∧ w'.cell? ⟨(ad298.add ((x6_2).toNat * 3)).block, (ad298.add ((x6_2).toNat * 3)).off + 2, none⟩ = some (.int .i64 ((rd_T31 t266 x6_2).f2)) ∧ w'.cell? (ad298.add ((x6_2).toNat * 3)) = some (.int .i64 ((rd_T31 t266 x6_2).f0)) ∧ w'.cell? ⟨(ad298.add ((x6_2).toNat * 3)).block, (ad298.add ((x6_2).toNat * 3)).off + 1, none⟩ = some (.int .i64 ((rd_T31 t266 x6_2).f1)) ∧ w'.cell? ⟨(ad298.add ((x6_2).toNat * 3)).block, (ad298.add ((x6_2).toNat * 3)).off + 2, none⟩ = some (.int .i64 ((rd_T31 t266 x6_2).f2)) ∧ w'.cell? (ad307.add ((((rd_T31 t266 x6_2).f0)).toNat * 5)) = some (.int .i64 ((rd_T33 t263 ((rd_T31 t266 x6_2).f0)).f0)) ∧ w'.cell? ⟨(ad307.add ((((rd_T31 t266 x6_2).f0)).toNat * 5)).block, (ad307.add ((((rd_T31 t266 x6_2).f0)).toNat * 5)).off + 1, none⟩ = some (.int .i64 ((rd_T33 t263 ((rd_T31 t266 x6_2).f0)).f1)) ∧ w'.cell? ⟨(ad307.add ((((rd_T31 t266 x6_2).f0)).toNat * 5)).block, (ad307.add ((((rd_T31 t266 x6_2).f0)).toNat * 5)).off + 2, none⟩ = some (.int .i64 ((rd_T33 t263 ((rd_T31 t266 x6_2).f0)).f2)) ∧ w'.cell? ⟨(ad307.add ((((rd_T31 t266 x6_2).f0)).toNat * 5)).block, (ad307.add ((((rd_T31 t266 x6_2).f0)).toNat * 5)).off + 3, none⟩ = some (.int .i64 ((rd_T33 t263 ((rd_T31 t266 x6_2).f0)).f3)) ∧ w'.cell? ⟨(ad307.add ((((rd_T31 t266 x6_2).f0)).toNat * 5)).block, (ad307.add ((((rd_T31 t266 x6_2).f0)).toNat * 5)).off + 4, none⟩ = some (.int .i64 ((rd_T33 t263 ((rd_T31 t266 x6_2).f0)).f4)) ∧ w'.cell? (ad298.add ((x6_2).toNat * 3)) = some (.int .i64 ((rd_T31 t266 x6_2).f0)) ∧ w'.cell? ⟨(ad298.add ((x6_2).toNat * 3)).block, (ad298.add ((x6_2).toNat * 3)).off + 1, none⟩ = some (.int .i64 ((rd_T31 t266 x6_2).f1)) ∧ w'.cell? ⟨(ad298.add ((x6_2).toNat * 3)).block, (ad298.add ((x6_2).toNat * 3)).off + 2, none⟩ = some (.int .i64 ((rd_T31 t266 x6_2).f2)) ∧ w'.cell? (ad307.add ((((rd_T31 t266 x6_2).f1)).toNat * 5)) = some (.int .i64 ((rd_T33 t263 ((rd_T31 t266 x6_2).f1)).f0)) ∧ w'.cell? ⟨(ad307.add ((((rd_T31 t266 x6_2).f1)).toNat * 5)).block, (ad307.add ((((rd_T31 t266 x6_2).f1)).toNat * 5)).off + 1, none⟩ = some (.int .i64 ((rd_T33 t263 ((rd_T31 t266 x6_2).f1)).f1)) ∧ w'.cell? ⟨(ad307.add ((((rd_T31 t266 x6_2).f1)).toNat * 5)).block, (ad307.add ((((rd_T31 t266 x6_2).f1)).toNat * 5)).off + 2, none⟩ = some (.int .i64 ((rd_T33 t263 ((rd_T31 t266 x6_2).f1)).f2)) ∧ w'.cell? ⟨(ad307.add ((((rd_T31 t266 x6_2).f1)).toNat * 5)).block, (ad307.add ((((rd_T31 t266 x6_2).f1)).toNat * 5)).off + 3, none⟩ = some (.int .i64 ((rd_T33 t263 ((rd_T31 t266 x6_2).f1)).f3)) ∧ w'.cell? ⟨(ad307.add ((((rd_T31 t266 x6_2).f1)).toNat * 5)).block, (ad307.add ((((rd_T31 t266 x6_2).f1)).toNat * 5)).off + 4, none⟩ = some (.int .i64 ((rd_T33 t263 ((rd_T31 t266 x6_2).f1)).f4))) (ds := []) z3_12 (by kernel_rfl) rfl rfl ⟨ct_ BK269.out 0, ct_ BK269.out 1, hx298_0, hx298_1, hx298_2, hx306_0, hx306_1, hx306_2, hx307_0, hx307_1, hx307_2, hx307_3, hx307_4, hx308_0, hx308_1, hx308_2, hx309_0, hx309_1, hx309_2, hx309_3, hx309_4⟩ (fun hHeld => ?_); refine with_tabW laws_FnTurnsOk.tab11 laws_FnTurnsOk.bits11 (fun HT_ HW_ => ?_)
       generalize w87.drew = w89 at HO_4 HO_270001 HO290 BK269 HR280 HR287 HB hx298_0 hx298_1 hx298_2 hx306_0 hx306_1 hx306_2 hx307_0 hx307_1 hx307_2 hx307_3 hx307_4 hx308_0 hx308_1 hx308_2 hx309_0 hx309_1 hx309_2 hx309_3 hx309_4 hHeld ⊢
       refine pu_ 1 50 z3_13 HT_.out ?_
       refine tk_ 0 49 z3_14 HT_.out HW_.out hHeld ?_
       refine one_ (i := 2) (N := some 51) z3_15 rfl rfl (one_of HT_.out (by kernel_rfl)) (by decide) (fun K hK => ?_)
       refine go_ Try.func5 #[.agg #[.int .i64 t262, .slice (some ad307) t263.length co9], .slice Ao88 y288.length co88] ?_
       with_reducible refine (impl_TurnsOk.calls k2 t262 _ _ t263 _ _ y288 true _ ?side1 ?side2 ?side3 ?side4 A30.out).mono ?_
       (case side1 => exact nc_ (rR3 HO_270001.out).2.2)
       (case side2 => exact (rR3 HO_270001.out).2.1)
       (case side3 => exact nc_ (rR3 HO290.out).2.2)
       (case side4 => exact (rR3 HO290.out).2.1)
       rintro e w90 ⟨rfl, hb⟩
       have HS2_ := (hb.cell (World.block_lt_of_cell? _ _ (hHeld.2.2.1))).trans (hHeld.2.2.1)
       have HS3_ := (hb.cell (World.block_lt_of_cell? _ _ (hHeld.2.2.2.1))).trans (hHeld.2.2.2.1)
       have HS4_ := (hb.cell (World.block_lt_of_cell? _ _ (hHeld.2.2.2.2.1))).trans (hHeld.2.2.2.2.1)
       have HS5_ := (hb.cell (World.block_lt_of_cell? _ _ (hHeld.2.2.2.2.2.1))).trans (hHeld.2.2.2.2.2.1)
       have HS6_ := (hb.cell (World.block_lt_of_cell? _ _ (hHeld.2.2.2.2.2.2.1))).trans (hHeld.2.2.2.2.2.2.1)
       have HS7_ := (hb.cell (World.block_lt_of_cell? _ _ (hHeld.2.2.2.2.2.2.2.1))).trans (hHeld.2.2.2.2.2.2.2.1)
       have HS8_ := (hb.cell (World.block_lt_of_cell? _ _ (hHeld.2.2.2.2.2.2.2.2.1))).trans (hHeld.2.2.2.2.2.2.2.2.1)
       have HS9_ := (hb.cell (World.block_lt_of_cell? _ _ (hHeld.2.2.2.2.2.2.2.2.2.1))).trans (hHeld.2.2.2.2.2.2.2.2.2.1)
       have HS10_ := (hb.cell (World.block_lt_of_cell? _ _ (hHeld.2.2.2.2.2.2.2.2.2.2.1))).trans (hHeld.2.2.2.2.2.2.2.2.2.2.1)
       have HS11_ := (hb.cell (World.block_lt_of_cell? _ _ (hHeld.2.2.2.2.2.2.2.2.2.2.2.1))).trans (hHeld.2.2.2.2.2.2.2.2.2.2.2.1)
       have HS12_ := (hb.cell (World.block_lt_of_cell? _ _ (hHeld.2.2.2.2.2.2.2.2.2.2.2.2.1))).trans (hHeld.2.2.2.2.2.2.2.2.2.2.2.2.1)
       have HS13_ := (hb.cell (World.block_lt_of_cell? _ _ (hHeld.2.2.2.2.2.2.2.2.2.2.2.2.2.1))).trans (hHeld.2.2.2.2.2.2.2.2.2.2.2.2.2.1)
       have HS14_ := (hb.cell (World.block_lt_of_cell? _ _ (hHeld.2.2.2.2.2.2.2.2.2.2.2.2.2.2.1))).trans (hHeld.2.2.2.2.2.2.2.2.2.2.2.2.2.2.1)
       have HS15_ := (hb.cell (World.block_lt_of_cell? _ _ (hHeld.2.2.2.2.2.2.2.2.2.2.2.2.2.2.2.1))).trans (hHeld.2.2.2.2.2.2.2.2.2.2.2.2.2.2.2.1)
       have HS16_ := (hb.cell (World.block_lt_of_cell? _ _ (hHeld.2.2.2.2.2.2.2.2.2.2.2.2.2.2.2.2.1))).trans (hHeld.2.2.2.2.2.2.2.2.2.2.2.2.2.2.2.2.1)
       have HS17_ := (hb.cell (World.block_lt_of_cell? _ _ (hHeld.2.2.2.2.2.2.2.2.2.2.2.2.2.2.2.2.2.1))).trans (hHeld.2.2.2.2.2.2.2.2.2.2.2.2.2.2.2.2.2.1)
       have HS18_ := (hb.cell (World.block_lt_of_cell? _ _ (hHeld.2.2.2.2.2.2.2.2.2.2.2.2.2.2.2.2.2.2.1))).trans (hHeld.2.2.2.2.2.2.2.2.2.2.2.2.2.2.2.2.2.2.1)
       have HS19_ := (hb.cell (World.block_lt_of_cell? _ _ (hHeld.2.2.2.2.2.2.2.2.2.2.2.2.2.2.2.2.2.2.2.1))).trans (hHeld.2.2.2.2.2.2.2.2.2.2.2.2.2.2.2.2.2.2.2.1)
       have HS20_ := (hb.cell (World.block_lt_of_cell? _ _ (hHeld.2.2.2.2.2.2.2.2.2.2.2.2.2.2.2.2.2.2.2.2))).trans (hHeld.2.2.2.2.2.2.2.2.2.2.2.2.2.2.2.2.2.2.2.2)
       refine ⟨_, rfl, ?_⟩
       replace HO_4 := Aside0.mk (rB3 HO_4.out hb)
       replace HO_270001 := Aside0.mk (rB3 HO_270001.out hb)
       replace HO290 := Aside0.mk (rB3 HO290.out hb)
       replace BK269 := kb_ BK269 hb
       replace HR280 := Aside0.mk (Kd.C_below (by repeat (first | (with_reducible exact HR280.out) | (with_reducible refine cA3 ?_ _) | (with_reducible refine cN3 ?_ _) | (with_reducible refine cD3 ?_) | exact HR280.out)) hb)
       replace HR287 := Aside0.mk (Kd.C_below (by repeat (first | (with_reducible exact HR287.out) | (with_reducible refine cA3 ?_ _) | (with_reducible refine cN3 ?_ _) | (with_reducible refine cD3 ?_) | exact HR287.out)) hb)
       replace HB := Aside0.mk (below_step HB.out hb)
       (try clear hb)
       (try clear hb2)
       (try clear hk)
       (try clear hi)
       refine hK.out _ _ ⟨ct_ BK269.out 0, ct_ BK269.out 1, HS2_, HS3_, HS4_, HS5_, HS6_, HS7_, HS8_, HS9_, HS10_, HS11_, HS12_, HS13_, HS14_, HS15_, HS16_, HS17_, HS18_, HS19_, HS20_⟩ (fun hHeld => ?_)
       clear hK K
       refine nm1_ (some 51) ?_
       refine pu_ 3 52 z3_16 HT_.out ?_
       refine pu_ 4 53 z3_17 HT_.out ?_
       refine pu_ 7 56 z3_18 HT_.out ?_
       refine pu_ 9 58 z3_19 HT_.out ?_
       refine pu_ 10 59 z3_20 HT_.out ?_
       refine pu_ 11 60 z3_21 HT_.out ?_
       refine tk_ 5 54 z3_22 HT_.out HW_.out hHeld ?_
       refine tk_ 12 61 z3_23 HT_.out HW_.out hHeld ?_
       refine join_ (σ := Value × Value × Value) 26 z3_24 (fun s_ => [(55, s_.1), (57, s_.2.1), (62, s_.2.2)]) (fun s_ w' => (w'.cell? ⟨gb269, 0, none⟩ = some (.int .i64 t262) ∧ w'.cell? ⟨gb269, 1, none⟩ = some (.slice (some ad307) t263.length co9) ∧ w'.cell? (ad298.add ((x6_2).toNat * 3)) = some (.int .i64 ((rd_T31 t266 x6_2).f0)) ∧ w'.cell? ⟨(ad298.add ((x6_2).toNat * 3)).block, (ad298.add ((x6_2).toNat * 3)).off + 1, none⟩ = some (.int .i64 ((rd_T31 t266 x6_2).f1)) ∧ w'.cell? ⟨(ad298.add ((x6_2).toNat * 3)).block, (ad298.add ((x6_2).toNat * 3)).off + 2, none⟩ = some (.int .i64 ((rd_T31 t266 x6_2).f2)) ∧ w'.cell? (ad298.add ((x6_2).toNat * 3)) = some (.int .i64 ((rd_T31 t266 x6_2).f0)) ∧ w'.cell? ⟨(ad298.add ((x6_2).toNat * 3)).block, (ad298.add ((x6_2).toNat * 3)).off + 1, none⟩ = some (.int .i64 ((rd_T31 t266 x6_2).f1)) ∧ w'.cell? ⟨(ad298.add ((x6_2).toNat * 3)).block, (ad298.add ((x6_2).toNat * 3)).off + 2, none⟩ = some (.int .i64 ((rd_T31 t266 x6_2).f2)) ∧ w'.cell? (ad307.add ((((rd_T31 t266 x6_2).f0)).toNat * 5)) = some (.int .i64 ((rd_T33 t263 ((rd_T31 t266 x6_2).f0)).f0)) ∧ w'.cell? ⟨(ad307.add ((((rd_T31 t266 x6_2).f0)).toNat * 5)).block, (ad307.add ((((rd_T31 t266 x6_2).f0)).toNat * 5)).off + 1, none⟩ = some (.int .i64 ((rd_T33 t263 ((rd_T31 t266 x6_2).f0)).f1)) ∧ w'.cell? ⟨(ad307.add ((((rd_T31 t266 x6_2).f0)).toNat * 5)).block, (ad307.add ((((rd_T31 t266 x6_2).f0)).toNat * 5)).off + 2, none⟩ = some (.int .i64 ((rd_T33 t263 ((rd_T31 t266 x6_2).f0)).f2)) ∧ w'.cell? ⟨(ad307.add ((((rd_T31 t266 x6_2).f0)).toNat * 5)).block, (ad307.add ((((rd_T31 t266 x6_2).f0)).toNat * 5)).off + 3, none⟩ = some (.int .i64 ((rd_T33 t263 ((rd_T31 t266 x6_2).f0)).f3)) ∧ w'.cell? ⟨(ad307.add ((((rd_T31 t266 x6_2).f0)).toNat * 5)).block, (ad307.add ((((rd_T31 t266 x6_2).f0)).toNat * 5)).off + 4, none⟩ = some (.int .i64 ((rd_T33 t263 ((rd_T31 t266 x6_2).f0)).f4)) ∧ w'.cell? (ad298.add ((x6_2).toNat * 3)) = some (.int .i64 ((rd_T31 t266 x6_2).f0)) ∧ w'.cell? ⟨(ad298.add ((x6_2).toNat * 3)).block, (ad298.add ((x6_2).toNat * 3)).off + 1, none⟩ = some (.int .i64 ((rd_T31 t266 x6_2).f1)) ∧ w'.cell? ⟨(ad298.add ((x6_2).toNat * 3)).block, (ad298.add ((x6_2).toNat * 3)).off + 2, none⟩ = some (.int .i64 ((rd_T31 t266 x6_2).f2)) ∧ w'.cell? (ad307.add ((((rd_T31 t266 x6_2).f1)).toNat * 5)) = some (.int .i64 ((rd_T33 t263 ((rd_T31 t266 x6_2).f1)).f0)) ∧ w'.cell? ⟨(ad307.add ((((rd_T31 t266 x6_2).f1)).toNat * 5)).block, (ad307.add ((((rd_T31 t266 x6_2).f1)).toNat * 5)).off + 1, none⟩ = some (.int .i64 ((rd_T33 t263 ((rd_T31 t266 x6_2).f1)).f1)) ∧ w'.cell? ⟨(ad307.add ((((rd_T31 t266 x6_2).f1)).toNat * 5)).block, (ad307.add ((((rd_T31 t266 x6_2).f1)).toNat * 5)).off + 2, none⟩ = some (.int .i64 ((rd_T33 t263 ((rd_T31 t266 x6_2).f1)).f2)) ∧ w'.cell? ⟨(ad307.add ((((rd_T31 t266 x6_2).f1)).toNat * 5)).block, (ad307.add ((((rd_T31 t266 x6_2).f1)).toNat * 5)).off + 3, none⟩ = some (.int .i64 ((rd_T33 t263 ((rd_T31 t266 x6_2).f1)).f3)) ∧ w'.cell? ⟨(ad307.add ((((rd_T31 t266 x6_2).f1)).toNat * 5)).block, (ad307.add ((((rd_T31 t266 x6_2).f1)).toNat * 5)).off + 4, none⟩ = some (.int .i64 ((rd_T33 t263 ((rd_T31 t266 x6_2).f1)).f4))) ∧ (Kd.R k31 31 w' w.heap.size (fun k_ => some k_ ≠ (s_.2.1 : Value).ownBlock ∧ some k_ ≠ (s_.2.2 : Value).ownBlock ∧ some k_ ≠ (.slice (some ad298) t266.length co10 : Value).ownBlock) (.slice Ao88 y288.length co88) y288) ∧ (Kd.R k31 31 w' w.heap.size (fun k_ => some k_ ≠ (.slice Ao88 y288.length co88 : Value).ownBlock ∧ some k_ ≠ (s_.2.2 : Value).ownBlock ∧ some k_ ≠ (.slice (some ad298) t266.length co10 : Value).ownBlock) s_.2.1 y295) ∧ (Kd.R k31 31 w' w.heap.size (fun k_ => some k_ ≠ (.slice Ao88 y288.length co88 : Value).ownBlock ∧ some k_ ≠ (s_.2.1 : Value).ownBlock ∧ some k_ ≠ (.slice (some ad298) t266.length co10 : Value).ownBlock) s_.2.2 y299) ∧ (Kd.R k33 33 w' w.heap.size (fun _ => True) (.slice (some ad307) t263.length co9) t263) ∧ (Kd.R k31 31 w' w.heap.size (fun k_ => some k_ ≠ (.slice Ao88 y288.length co88 : Value).ownBlock ∧ some k_ ≠ (s_.2.1 : Value).ownBlock ∧ some k_ ≠ (s_.2.2 : Value).ownBlock) (.slice (some ad298) t266.length co10) t266) ∧ (w'.heap[gb269]? = some (.cells #[.int .i64 t262, .slice (some ad307) t263.length co9] 25 (0, 0))) ∧ (Below w.heap.size w w')) ?_ ?_
       rotate_left
       ·intro hCont
        refine two_ (i := 6) (j := 13) (Ni := some 55) (Nj := some 62) z3_25 z3_26 rfl rfl rfl rfl (two_of HT_.out (by kernel_rfl)) (by decide) (by decide) (fun K hK => ?_) (fun K hK => ?_)
        ·skip
         refine Kd.R_lit_step k31 _ 31 ?hg (N := 55) ?hd (xs := ([] : List (S31))) (inner := []) (ok := fun _ => True) (okp := fun _ => True) ?hr ?hp (fun _ hk => hk) trivial (Below.refl _ _) (Nat.le_refl _) (by simp) ?_; (case hd => rfl); (case hg => rfl); (case hr => first | (go_simp; done) | (go_simp; rfl)); (case hp => exact (Reps.none _ _))
         intro v293 w91 ho92 hb hg_ hnew_
         have HS2_ := (hb.cell (World.block_lt_of_cell? _ _ (hHeld.2.2.1))).trans (hHeld.2.2.1)
         have HS3_ := (hb.cell (World.block_lt_of_cell? _ _ (hHeld.2.2.2.1))).trans (hHeld.2.2.2.1)
         have HS4_ := (hb.cell (World.block_lt_of_cell? _ _ (hHeld.2.2.2.2.1))).trans (hHeld.2.2.2.2.1)
         have HS5_ := (hb.cell (World.block_lt_of_cell? _ _ (hHeld.2.2.2.2.2.1))).trans (hHeld.2.2.2.2.2.1)
         have HS6_ := (hb.cell (World.block_lt_of_cell? _ _ (hHeld.2.2.2.2.2.2.1))).trans (hHeld.2.2.2.2.2.2.1)
         have HS7_ := (hb.cell (World.block_lt_of_cell? _ _ (hHeld.2.2.2.2.2.2.2.1))).trans (hHeld.2.2.2.2.2.2.2.1)
         have HS8_ := (hb.cell (World.block_lt_of_cell? _ _ (hHeld.2.2.2.2.2.2.2.2.1))).trans (hHeld.2.2.2.2.2.2.2.2.1)
         have HS9_ := (hb.cell (World.block_lt_of_cell? _ _ (hHeld.2.2.2.2.2.2.2.2.2.1))).trans (hHeld.2.2.2.2.2.2.2.2.2.1)
         have HS10_ := (hb.cell (World.block_lt_of_cell? _ _ (hHeld.2.2.2.2.2.2.2.2.2.2.1))).trans (hHeld.2.2.2.2.2.2.2.2.2.2.1)
         have HS11_ := (hb.cell (World.block_lt_of_cell? _ _ (hHeld.2.2.2.2.2.2.2.2.2.2.2.1))).trans (hHeld.2.2.2.2.2.2.2.2.2.2.2.1)
         have HS12_ := (hb.cell (World.block_lt_of_cell? _ _ (hHeld.2.2.2.2.2.2.2.2.2.2.2.2.1))).trans (hHeld.2.2.2.2.2.2.2.2.2.2.2.2.1)
         have HS13_ := (hb.cell (World.block_lt_of_cell? _ _ (hHeld.2.2.2.2.2.2.2.2.2.2.2.2.2.1))).trans (hHeld.2.2.2.2.2.2.2.2.2.2.2.2.2.1)
         have HS14_ := (hb.cell (World.block_lt_of_cell? _ _ (hHeld.2.2.2.2.2.2.2.2.2.2.2.2.2.2.1))).trans (hHeld.2.2.2.2.2.2.2.2.2.2.2.2.2.2.1)
         have HS15_ := (hb.cell (World.block_lt_of_cell? _ _ (hHeld.2.2.2.2.2.2.2.2.2.2.2.2.2.2.2.1))).trans (hHeld.2.2.2.2.2.2.2.2.2.2.2.2.2.2.2.1)
         have HS16_ := (hb.cell (World.block_lt_of_cell? _ _ (hHeld.2.2.2.2.2.2.2.2.2.2.2.2.2.2.2.2.1))).trans (hHeld.2.2.2.2.2.2.2.2.2.2.2.2.2.2.2.2.1)
         have HS17_ := (hb.cell (World.block_lt_of_cell? _ _ (hHeld.2.2.2.2.2.2.2.2.2.2.2.2.2.2.2.2.2.1))).trans (hHeld.2.2.2.2.2.2.2.2.2.2.2.2.2.2.2.2.2.1)
         have HS18_ := (hb.cell (World.block_lt_of_cell? _ _ (hHeld.2.2.2.2.2.2.2.2.2.2.2.2.2.2.2.2.2.2.1))).trans (hHeld.2.2.2.2.2.2.2.2.2.2.2.2.2.2.2.2.2.2.1)
         have HS19_ := (hb.cell (World.block_lt_of_cell? _ _ (hHeld.2.2.2.2.2.2.2.2.2.2.2.2.2.2.2.2.2.2.2.1))).trans (hHeld.2.2.2.2.2.2.2.2.2.2.2.2.2.2.2.2.2.2.2.1)
         have HS20_ := (hb.cell (World.block_lt_of_cell? _ _ (hHeld.2.2.2.2.2.2.2.2.2.2.2.2.2.2.2.2.2.2.2.2))).trans (hHeld.2.2.2.2.2.2.2.2.2.2.2.2.2.2.2.2.2.2.2.2)
         clear hg_ hnew_
         (first | rw [← Ny292.out] at ho92 | (simp only [Int.reduceToNat] at ho92; rw [← Ny292.out] at ho92))
         replace HO_270001 := Aside0.mk (rB3 HO_270001.out hb)
         have HO294 := Aside0.mk (Kd.R_lower (Kd.R_new' (Kd.R_new' ho92 (Kd.R_lt HO_4.out)) (Kd.R_lt HO290.out)) (eZ3 HB.out))
         replace HO_4 := Aside0.mk (Kd.R_elder' HO_4.out (Kd.R_base ho92) hb)
         replace HO290 := Aside0.mk (Kd.R_elder' HO290.out (Kd.R_base ho92) hb)
         replace BK269 := kb_ BK269 hb
         replace HR280 := Aside0.mk (Kd.C_below (by repeat (first | (with_reducible exact HR280.out) | (with_reducible refine cA3 ?_ _) | (with_reducible refine cN3 ?_ _) | (with_reducible refine cD3 ?_) | exact HR280.out)) hb)
         replace HR287 := Aside0.mk (Kd.C_below (by repeat (first | (with_reducible exact HR287.out) | (with_reducible refine cA3 ?_ _) | (with_reducible refine cN3 ?_ _) | (with_reducible refine cD3 ?_) | exact HR287.out)) hb)
         replace HB := Aside0.mk (below_step HB.out hb)
         clear hb ho92
         refine hK.out _ _ ⟨ct_ BK269.out 0, ct_ BK269.out 1, HS2_, HS3_, HS4_, HS5_, HS6_, HS7_, HS8_, HS9_, HS10_, HS11_, HS12_, HS13_, HS14_, HS15_, HS16_, HS17_, HS18_, HS19_, HS20_⟩ (fun hHeld => ?_)
         clear hK K
         refine nm1_ (some 55) ?_
         refine two_ (i := 8) (j := 13) (Ni := some 57) (Nj := some 62) z3_27 z3_28 rfl rfl rfl rfl (two_of HT_.out (by kernel_rfl)) (by decide) (by decide) (fun K hK => ?_) (fun K hK => ?_)
         ·skip
          refine Kd.R_append_rows_step k31 (w0 := w) w.heap.size (by rfl) (.tmp 55) (.tmp 56) 26 31 (.agg #[(.int .i64 0), (.int .i64 0), (.int .i64 0)]) 24 rfl Try.underlying26 info31 rfl (by decide) (by omega) v293 y292 t266 _ _ _ (fun k_ => some k_ ≠ (.slice (some ad298) t266.length co10 : Value).ownBlock ∧ some k_ ≠ (.slice Ao88 y288.length co88 : Value).ownBlock) (fun _ => False) rfl rfl ?aO ?aR (fun _ _ h => h) (fun _ h => h.elim) ?aF ?aB ?aS ?aL ?_
          (case aR => repeat (first | exact (rR3 HO_4.out).2.2 | (with_reducible refine cA3 ?_ _) | (with_reducible refine cN3 ?_ _) | (with_reducible refine cD3 ?_)))
          (case aB => exact HB.out)
          (case aF => exact (fun k_ hk => ⟨Kd.fresh' (Kd.R_lt HO_4.out) k_ hk, Kd.fresh' (Kd.R_lt HO290.out) k_ hk⟩))
          (case aO => exact (by (with_reducible repeat (first | apply rA3 | apply rN3 | apply rD3)); exact Kd.R_mono HO294.out (fun _ hk => by first | exact ⟨hk.1.2, hk.2⟩ | trivial | simp_all)))
          (case aS => exact (eZ3 HB.out))
          (case aL => have := LMc32.out; omega)
          intro v296 w93 ho hb hg hat
          have HS2_ := cga_ hg (hHeld.2.2.1) HO294.out.1
          have HS3_ := cga_ hg (hHeld.2.2.2.1) HO294.out.1
          have HS4_ := cga_ hg (hHeld.2.2.2.2.1) HO294.out.1
          have HS5_ := cga_ hg (hHeld.2.2.2.2.2.1) HO294.out.1
          have HS6_ := cga_ hg (hHeld.2.2.2.2.2.2.1) HO294.out.1
          have HS7_ := cga_ hg (hHeld.2.2.2.2.2.2.2.1) HO294.out.1
          have HS8_ := cg_ hg (hHeld.2.2.2.2.2.2.2.2.1) (ry_ hg HO_270001.out HO294.out (by decide) rfl)
          have HS9_ := cg_ hg (hHeld.2.2.2.2.2.2.2.2.2.1) (ry_ hg HO_270001.out HO294.out (by decide) rfl)
          have HS10_ := cg_ hg (hHeld.2.2.2.2.2.2.2.2.2.2.1) (ry_ hg HO_270001.out HO294.out (by decide) rfl)
          have HS11_ := cg_ hg (hHeld.2.2.2.2.2.2.2.2.2.2.2.1) (ry_ hg HO_270001.out HO294.out (by decide) rfl)
          have HS12_ := cg_ hg (hHeld.2.2.2.2.2.2.2.2.2.2.2.2.1) (ry_ hg HO_270001.out HO294.out (by decide) rfl)
          have HS13_ := cga_ hg (hHeld.2.2.2.2.2.2.2.2.2.2.2.2.2.1) HO294.out.1
          have HS14_ := cga_ hg (hHeld.2.2.2.2.2.2.2.2.2.2.2.2.2.2.1) HO294.out.1
          have HS15_ := cga_ hg (hHeld.2.2.2.2.2.2.2.2.2.2.2.2.2.2.2.1) HO294.out.1
          have HS16_ := cg_ hg (hHeld.2.2.2.2.2.2.2.2.2.2.2.2.2.2.2.2.1) (ry_ hg HO_270001.out HO294.out (by decide) rfl)
          have HS17_ := cg_ hg (hHeld.2.2.2.2.2.2.2.2.2.2.2.2.2.2.2.2.2.1) (ry_ hg HO_270001.out HO294.out (by decide) rfl)
          have HS18_ := cg_ hg (hHeld.2.2.2.2.2.2.2.2.2.2.2.2.2.2.2.2.2.2.1) (ry_ hg HO_270001.out HO294.out (by decide) rfl)
          have HS19_ := cg_ hg (hHeld.2.2.2.2.2.2.2.2.2.2.2.2.2.2.2.2.2.2.2.1) (ry_ hg HO_270001.out HO294.out (by decide) rfl)
          have HS20_ := cg_ hg (hHeld.2.2.2.2.2.2.2.2.2.2.2.2.2.2.2.2.2.2.2.2) (ry_ hg HO_270001.out HO294.out (by decide) rfl)
          rw [← Ny295.out] at ho
          replace HO_270001 := Aside0.mk (Kd.R_over' HO_270001.out (Kd.R_typed HO294.out) (by decide) hg)
          replace BK269 := Aside0.mk (blk_grown (g := gb269) (o := .cells #[.int .i64 t262, .slice (some ad307) t263.length co9] 25 (0, 0)) BK269.out hg (Kd.R_ne HO294.out BK269.out (by decide)))
          replace HO290 := Aside0.mk (Kd.R_after (ok := (fun k_ => some k_ ≠ (.slice (some ad298) t266.length co10 : Value).ownBlock)) HO290.out hg hat)
          replace HB := Aside0.mk (hb)
          replace HR280 := Aside0.mk ((show Kd.C k31 w93 (some ad298) y277.length y277 from by rw [Ny277.out]; exact Kd.C_take (m := (x6_2 : Int).toNat) ((rR3 (Kd.R_after (ok := (fun k_ => some k_ ≠ (.slice Ao88 y288.length co88 : Value).ownBlock)) (by (with_reducible repeat (first | apply rA3 | apply rN3 | apply rD3)); exact Kd.R_mono HO_4.out (fun _ hk => by first | exact ⟨hk.1.2, hk.2⟩ | trivial | simp_all)) hg hat)).2.2) KL82.out))
          replace HR287 := Aside0.mk ((show Kd.C k31 w93 A83 y284.length y284 from by rw [Ny284.out, KA83.out]; exact Kd.C_drop (m := ((ji26) : Int).toNat) (c := co10) ((rR3 (Kd.R_after (ok := (fun k_ => some k_ ≠ (.slice Ao88 y288.length co88 : Value).ownBlock)) (by (with_reducible repeat (first | apply rA3 | apply rN3 | apply rD3)); exact Kd.R_mono HO_4.out (fun _ hk => by first | exact ⟨hk.1.2, hk.2⟩ | trivial | simp_all)) hg hat)).2.2) KL83.out ((rR3 (Kd.R_after (ok := (fun k_ => some k_ ≠ (.slice Ao88 y288.length co88 : Value).ownBlock)) (by (with_reducible repeat (first | apply rA3 | apply rN3 | apply rD3)); exact Kd.R_mono HO_4.out (fun _ hk => by first | exact ⟨hk.1.2, hk.2⟩ | trivial | simp_all)) hg hat)).2.1)))
          replace HO_4 := Aside0.mk (Kd.R_after (ok := (fun k_ => some k_ ≠ (.slice Ao88 y288.length co88 : Value).ownBlock)) (by (with_reducible repeat (first | apply rA3 | apply rN3 | apply rD3)); exact Kd.R_mono HO_4.out (fun _ hk => by first | exact ⟨hk.1.2, hk.2⟩ | trivial | simp_all)) hg hat)
          have HO297 := Aside0.mk (ho)
          clear HO294 ho hb hg hat
          refine hK.out _ _ ⟨ct_ BK269.out 0, ct_ BK269.out 1, HS2_, HS3_, HS4_, HS5_, HS6_, HS7_, HS8_, HS9_, HS10_, HS11_, HS12_, HS13_, HS14_, HS15_, HS16_, HS17_, HS18_, HS19_, HS20_⟩ (fun hHeld => ?_)
          clear hK K
          refine nm1_ (some 57) ?_
          refine one_ (i := 13) (N := some 62) z3_24 rfl rfl (one_of HT_.out (by kernel_rfl)) (by decide) (fun K hK => ?_)
          refine Kd.R_lit_step k31 _ 31 ?hg (N := 62) ?hd (xs := ([(⟨(rd_T31 t266 x6_2).f0, (rd_T31 t266 x6_2).f1, (rd_T31 t266 x6_2).f2⟩ : S31)] : List (S31))) (inner := [.int .i64 ((rd_T31 t266 x6_2).f0), .int .i64 ((rd_T31 t266 x6_2).f1), .int .i64 ((rd_T31 t266 x6_2).f2)]) (ok := fun _ => True) (okp := fun _ => True) ?hr ?hp (fun _ hk => hk) trivial (Below.refl _ _) (Nat.le_refl _) (by simp) ?_; (case hd => rfl); (case hg => rfl); (case hr => first | (go_simp; done) | (go_simp; rfl)); (case hp => exact (Reps.c3 (show Kd.M k31 _ _ _ (⟨(rd_T31 t266 x6_2).f0, (rd_T31 t266 x6_2).f1, (rd_T31 t266 x6_2).f2⟩ : S31) [.int .i64 ((rd_T31 t266 x6_2).f0), .int .i64 ((rd_T31 t266 x6_2).f1), .int .i64 ((rd_T31 t266 x6_2).f2)] from (k31_mkM _ _ _ (⟨(rd_T31 t266 x6_2).f0, (rd_T31 t266 x6_2).f1, (rd_T31 t266 x6_2).f2⟩ : S31) )) (Reps.none _ _)))
          intro v300 w94 ho95 hb hg_ hnew_
          have HS2_ := (hb.cell (World.block_lt_of_cell? _ _ (hHeld.2.2.1))).trans (hHeld.2.2.1)
          have HS3_ := (hb.cell (World.block_lt_of_cell? _ _ (hHeld.2.2.2.1))).trans (hHeld.2.2.2.1)
          have HS4_ := (hb.cell (World.block_lt_of_cell? _ _ (hHeld.2.2.2.2.1))).trans (hHeld.2.2.2.2.1)
          have HS5_ := (hb.cell (World.block_lt_of_cell? _ _ (hHeld.2.2.2.2.2.1))).trans (hHeld.2.2.2.2.2.1)
          have HS6_ := (hb.cell (World.block_lt_of_cell? _ _ (hHeld.2.2.2.2.2.2.1))).trans (hHeld.2.2.2.2.2.2.1)
          have HS7_ := (hb.cell (World.block_lt_of_cell? _ _ (hHeld.2.2.2.2.2.2.2.1))).trans (hHeld.2.2.2.2.2.2.2.1)
          have HS8_ := (hb.cell (World.block_lt_of_cell? _ _ (hHeld.2.2.2.2.2.2.2.2.1))).trans (hHeld.2.2.2.2.2.2.2.2.1)
          have HS9_ := (hb.cell (World.block_lt_of_cell? _ _ (hHeld.2.2.2.2.2.2.2.2.2.1))).trans (hHeld.2.2.2.2.2.2.2.2.2.1)
          have HS10_ := (hb.cell (World.block_lt_of_cell? _ _ (hHeld.2.2.2.2.2.2.2.2.2.2.1))).trans (hHeld.2.2.2.2.2.2.2.2.2.2.1)
          have HS11_ := (hb.cell (World.block_lt_of_cell? _ _ (hHeld.2.2.2.2.2.2.2.2.2.2.2.1))).trans (hHeld.2.2.2.2.2.2.2.2.2.2.2.1)
          have HS12_ := (hb.cell (World.block_lt_of_cell? _ _ (hHeld.2.2.2.2.2.2.2.2.2.2.2.2.1))).trans (hHeld.2.2.2.2.2.2.2.2.2.2.2.2.1)
          have HS13_ := (hb.cell (World.block_lt_of_cell? _ _ (hHeld.2.2.2.2.2.2.2.2.2.2.2.2.2.1))).trans (hHeld.2.2.2.2.2.2.2.2.2.2.2.2.2.1)
          have HS14_ := (hb.cell (World.block_lt_of_cell? _ _ (hHeld.2.2.2.2.2.2.2.2.2.2.2.2.2.2.1))).trans (hHeld.2.2.2.2.2.2.2.2.2.2.2.2.2.2.1)
          have HS15_ := (hb.cell (World.block_lt_of_cell? _ _ (hHeld.2.2.2.2.2.2.2.2.2.2.2.2.2.2.2.1))).trans (hHeld.2.2.2.2.2.2.2.2.2.2.2.2.2.2.2.1)
          have HS16_ := (hb.cell (World.block_lt_of_cell? _ _ (hHeld.2.2.2.2.2.2.2.2.2.2.2.2.2.2.2.2.1))).trans (hHeld.2.2.2.2.2.2.2.2.2.2.2.2.2.2.2.2.1)
          have HS17_ := (hb.cell (World.block_lt_of_cell? _ _ (hHeld.2.2.2.2.2.2.2.2.2.2.2.2.2.2.2.2.2.1))).trans (hHeld.2.2.2.2.2.2.2.2.2.2.2.2.2.2.2.2.2.1)
          have HS18_ := (hb.cell (World.block_lt_of_cell? _ _ (hHeld.2.2.2.2.2.2.2.2.2.2.2.2.2.2.2.2.2.2.1))).trans (hHeld.2.2.2.2.2.2.2.2.2.2.2.2.2.2.2.2.2.2.1)
          have HS19_ := (hb.cell (World.block_lt_of_cell? _ _ (hHeld.2.2.2.2.2.2.2.2.2.2.2.2.2.2.2.2.2.2.2.1))).trans (hHeld.2.2.2.2.2.2.2.2.2.2.2.2.2.2.2.2.2.2.2.1)
          have HS20_ := (hb.cell (World.block_lt_of_cell? _ _ (hHeld.2.2.2.2.2.2.2.2.2.2.2.2.2.2.2.2.2.2.2.2))).trans (hHeld.2.2.2.2.2.2.2.2.2.2.2.2.2.2.2.2.2.2.2.2)
          clear hg_ hnew_
          (first | rw [← Ny299.out] at ho95 | (simp only [Int.reduceToNat] at ho95; rw [← Ny299.out] at ho95))
          replace HO_270001 := Aside0.mk (rB3 HO_270001.out hb)
          have HO301 := Aside0.mk (Kd.R_lower (Kd.R_new' (Kd.R_new' (Kd.R_new' ho95 (Kd.R_lt HO_4.out)) (Kd.R_lt HO290.out)) (Kd.R_lt HO297.out)) (eZ3 HB.out))
          replace HO_4 := Aside0.mk (Kd.R_elder' HO_4.out (Kd.R_base ho95) hb)
          replace HO290 := Aside0.mk (Kd.R_elder' HO290.out (Kd.R_base ho95) hb)
          replace HO297 := Aside0.mk (Kd.R_elder' HO297.out (Kd.R_base ho95) hb)
          replace BK269 := kb_ BK269 hb
          replace HR280 := Aside0.mk (Kd.C_below (by repeat (first | (with_reducible exact HR280.out) | (with_reducible refine cA3 ?_ _) | (with_reducible refine cN3 ?_ _) | (with_reducible refine cD3 ?_) | exact HR280.out)) hb)
          replace HR287 := Aside0.mk (Kd.C_below (by repeat (first | (with_reducible exact HR287.out) | (with_reducible refine cA3 ?_ _) | (with_reducible refine cN3 ?_ _) | (with_reducible refine cD3 ?_) | exact HR287.out)) hb)
          replace HB := Aside0.mk (below_step HB.out hb)
          clear hb ho95
          refine hK.out _ _ ⟨ct_ BK269.out 0, ct_ BK269.out 1, HS2_, HS3_, HS4_, HS5_, HS6_, HS7_, HS8_, HS9_, HS10_, HS11_, HS12_, HS13_, HS14_, HS15_, HS16_, HS17_, HS18_, HS19_, HS20_⟩ (fun hHeld => ?_)
          clear hK K
          refine nm1_ (some 62) ?_
          exact norm_ (by simp only [putAll, Act.put, List.setIfInBounds_toArray, List.set_cons_zero, List.set_cons_succ]) (hCont (v293, v296, v300) _ ⟨hHeld, (by (with_reducible repeat (first | apply rA3 | apply rN3 | apply rD3)); exact Kd.R_mono HO290.out (fun _ hk => by first | exact ⟨hk.1.2, ⟨hk.2, hk.1.1⟩⟩ | trivial | simp_all)), (by (with_reducible repeat (first | apply rA3 | apply rN3 | apply rD3)); exact Kd.R_mono HO297.out (fun _ hk => by first | exact ⟨hk.1.2, ⟨hk.2, hk.1.1⟩⟩ | trivial | simp_all)), (by (with_reducible repeat (first | apply rA3 | apply rN3 | apply rD3)); exact Kd.R_mono HO301.out (fun _ hk => by first | exact ⟨hk.1.2, ⟨hk.2, hk.1.1.2⟩⟩ | trivial | simp_all)), HO_270001.out, (by (with_reducible repeat (first | apply rA3 | apply rN3 | apply rD3)); exact Kd.R_mono HO_4.out (fun _ hk => by first | exact ⟨hk.1.1, ⟨hk.1.2, hk.2⟩⟩ | trivial | simp_all)), BK269.out, HB.out⟩)
         ·skip
          refine Kd.R_lit_step k31 _ 31 ?hg (N := 62) ?hd (xs := ([(⟨(rd_T31 t266 x6_2).f0, (rd_T31 t266 x6_2).f1, (rd_T31 t266 x6_2).f2⟩ : S31)] : List (S31))) (inner := [.int .i64 ((rd_T31 t266 x6_2).f0), .int .i64 ((rd_T31 t266 x6_2).f1), .int .i64 ((rd_T31 t266 x6_2).f2)]) (ok := fun _ => True) (okp := fun _ => True) ?hr ?hp (fun _ hk => hk) trivial (Below.refl _ _) (Nat.le_refl _) (by simp) ?_; (case hd => rfl); (case hg => rfl); (case hr => first | (go_simp; done) | (go_simp; rfl)); (case hp => exact (Reps.c3 (show Kd.M k31 _ _ _ (⟨(rd_T31 t266 x6_2).f0, (rd_T31 t266 x6_2).f1, (rd_T31 t266 x6_2).f2⟩ : S31) [.int .i64 ((rd_T31 t266 x6_2).f0), .int .i64 ((rd_T31 t266 x6_2).f1), .int .i64 ((rd_T31 t266 x6_2).f2)] from (k31_mkM _ _ _ (⟨(rd_T31 t266 x6_2).f0, (rd_T31 t266 x6_2).f1, (rd_T31 t266 x6_2).f2⟩ : S31) )) (Reps.none _ _)))
          intro v300 w93 ho94 hb hg_ hnew_
          have HS2_ := (hb.cell (World.block_lt_of_cell? _ _ (hHeld.2.2.1))).trans (hHeld.2.2.1)
          have HS3_ := (hb.cell (World.block_lt_of_cell? _ _ (hHeld.2.2.2.1))).trans (hHeld.2.2.2.1)
          have HS4_ := (hb.cell (World.block_lt_of_cell? _ _ (hHeld.2.2.2.2.1))).trans (hHeld.2.2.2.2.1)
          have HS5_ := (hb.cell (World.block_lt_of_cell? _ _ (hHeld.2.2.2.2.2.1))).trans (hHeld.2.2.2.2.2.1)
          have HS6_ := (hb.cell (World.block_lt_of_cell? _ _ (hHeld.2.2.2.2.2.2.1))).trans (hHeld.2.2.2.2.2.2.1)
          have HS7_ := (hb.cell (World.block_lt_of_cell? _ _ (hHeld.2.2.2.2.2.2.2.1))).trans (hHeld.2.2.2.2.2.2.2.1)
          have HS8_ := (hb.cell (World.block_lt_of_cell? _ _ (hHeld.2.2.2.2.2.2.2.2.1))).trans (hHeld.2.2.2.2.2.2.2.2.1)
          have HS9_ := (hb.cell (World.block_lt_of_cell? _ _ (hHeld.2.2.2.2.2.2.2.2.2.1))).trans (hHeld.2.2.2.2.2.2.2.2.2.1)
          have HS10_ := (hb.cell (World.block_lt_of_cell? _ _ (hHeld.2.2.2.2.2.2.2.2.2.2.1))).trans (hHeld.2.2.2.2.2.2.2.2.2.2.1)
          have HS11_ := (hb.cell (World.block_lt_of_cell? _ _ (hHeld.2.2.2.2.2.2.2.2.2.2.2.1))).trans (hHeld.2.2.2.2.2.2.2.2.2.2.2.1)
          have HS12_ := (hb.cell (World.block_lt_of_cell? _ _ (hHeld.2.2.2.2.2.2.2.2.2.2.2.2.1))).trans (hHeld.2.2.2.2.2.2.2.2.2.2.2.2.1)
          have HS13_ := (hb.cell (World.block_lt_of_cell? _ _ (hHeld.2.2.2.2.2.2.2.2.2.2.2.2.2.1))).trans (hHeld.2.2.2.2.2.2.2.2.2.2.2.2.2.1)
          have HS14_ := (hb.cell (World.block_lt_of_cell? _ _ (hHeld.2.2.2.2.2.2.2.2.2.2.2.2.2.2.1))).trans (hHeld.2.2.2.2.2.2.2.2.2.2.2.2.2.2.1)
          have HS15_ := (hb.cell (World.block_lt_of_cell? _ _ (hHeld.2.2.2.2.2.2.2.2.2.2.2.2.2.2.2.1))).trans (hHeld.2.2.2.2.2.2.2.2.2.2.2.2.2.2.2.1)
          have HS16_ := (hb.cell (World.block_lt_of_cell? _ _ (hHeld.2.2.2.2.2.2.2.2.2.2.2.2.2.2.2.2.1))).trans (hHeld.2.2.2.2.2.2.2.2.2.2.2.2.2.2.2.2.1)
          have HS17_ := (hb.cell (World.block_lt_of_cell? _ _ (hHeld.2.2.2.2.2.2.2.2.2.2.2.2.2.2.2.2.2.1))).trans (hHeld.2.2.2.2.2.2.2.2.2.2.2.2.2.2.2.2.2.1)
          have HS18_ := (hb.cell (World.block_lt_of_cell? _ _ (hHeld.2.2.2.2.2.2.2.2.2.2.2.2.2.2.2.2.2.2.1))).trans (hHeld.2.2.2.2.2.2.2.2.2.2.2.2.2.2.2.2.2.2.1)
          have HS19_ := (hb.cell (World.block_lt_of_cell? _ _ (hHeld.2.2.2.2.2.2.2.2.2.2.2.2.2.2.2.2.2.2.2.1))).trans (hHeld.2.2.2.2.2.2.2.2.2.2.2.2.2.2.2.2.2.2.2.1)
          have HS20_ := (hb.cell (World.block_lt_of_cell? _ _ (hHeld.2.2.2.2.2.2.2.2.2.2.2.2.2.2.2.2.2.2.2.2))).trans (hHeld.2.2.2.2.2.2.2.2.2.2.2.2.2.2.2.2.2.2.2.2)
          clear hg_ hnew_
          (first | rw [← Ny299.out] at ho94 | (simp only [Int.reduceToNat] at ho94; rw [← Ny299.out] at ho94))
          replace HO_270001 := Aside0.mk (rB3 HO_270001.out hb)
          have HO301 := Aside0.mk (Kd.R_lower (Kd.R_new' (Kd.R_new' (Kd.R_new' ho94 (Kd.R_lt HO_4.out)) (Kd.R_lt HO290.out)) (Kd.R_lt HO294.out)) (eZ3 HB.out))
          replace HO_4 := Aside0.mk (Kd.R_elder' HO_4.out (Kd.R_base ho94) hb)
          replace HO290 := Aside0.mk (Kd.R_elder' HO290.out (Kd.R_base ho94) hb)
          replace HO294 := Aside0.mk (Kd.R_elder' HO294.out (Kd.R_base ho94) hb)
          replace BK269 := kb_ BK269 hb
          replace HR280 := Aside0.mk (Kd.C_below (by repeat (first | (with_reducible exact HR280.out) | (with_reducible refine cA3 ?_ _) | (with_reducible refine cN3 ?_ _) | (with_reducible refine cD3 ?_) | exact HR280.out)) hb)
          replace HR287 := Aside0.mk (Kd.C_below (by repeat (first | (with_reducible exact HR287.out) | (with_reducible refine cA3 ?_ _) | (with_reducible refine cN3 ?_ _) | (with_reducible refine cD3 ?_) | exact HR287.out)) hb)
          replace HB := Aside0.mk (below_step HB.out hb)
          clear hb ho94
          refine hK.out _ _ ⟨ct_ BK269.out 0, ct_ BK269.out 1, HS2_, HS3_, HS4_, HS5_, HS6_, HS7_, HS8_, HS9_, HS10_, HS11_, HS12_, HS13_, HS14_, HS15_, HS16_, HS17_, HS18_, HS19_, HS20_⟩ (fun hHeld => ?_)
          clear hK K
          refine nm1_ (some 62) ?_
          refine one_ (i := 8) (N := some 57) z3_24 rfl rfl (one_of HT_.out (by kernel_rfl)) (by decide) (fun K hK => ?_)
          refine Kd.R_append_rows_step k31 (w0 := w) w.heap.size (by rfl) (.tmp 55) (.tmp 56) 26 31 (.agg #[(.int .i64 0), (.int .i64 0), (.int .i64 0)]) 24 rfl Try.underlying26 info31 rfl (by decide) (by omega) v293 y292 t266 _ _ _ (fun k_ => some k_ ≠ (.slice (some ad298) t266.length co10 : Value).ownBlock ∧ some k_ ≠ (.slice Ao88 y288.length co88 : Value).ownBlock ∧ some k_ ≠ (v300 : Value).ownBlock) (fun _ => False) rfl rfl ?aO ?aR (fun _ _ h => h) (fun _ h => h.elim) ?aF ?aB ?aS ?aL ?_
          (case aR => repeat (first | exact (rR3 HO_4.out).2.2 | (with_reducible refine cA3 ?_ _) | (with_reducible refine cN3 ?_ _) | (with_reducible refine cD3 ?_)))
          (case aB => exact HB.out)
          (case aF => exact (fun k_ hk => ⟨Kd.fresh' (Kd.R_lt HO_4.out) k_ hk, Kd.fresh' (Kd.R_lt HO290.out) k_ hk, Kd.fresh' (Kd.R_lt HO301.out) k_ hk⟩))
          (case aO => exact (by (with_reducible repeat (first | apply rA3 | apply rN3 | apply rD3)); exact Kd.R_mono HO294.out (fun _ hk => by first | exact ⟨hk.1.1.2, ⟨hk.1.2, hk.2⟩⟩ | trivial | simp_all)))
          (case aS => exact (eZ3 HB.out))
          (case aL => have := LMc32.out; omega)
          intro v296 w95 ho hb hg hat
          have HS2_ := cga_ hg (hHeld.2.2.1) HO294.out.1
          have HS3_ := cga_ hg (hHeld.2.2.2.1) HO294.out.1
          have HS4_ := cga_ hg (hHeld.2.2.2.2.1) HO294.out.1
          have HS5_ := cga_ hg (hHeld.2.2.2.2.2.1) HO294.out.1
          have HS6_ := cga_ hg (hHeld.2.2.2.2.2.2.1) HO294.out.1
          have HS7_ := cga_ hg (hHeld.2.2.2.2.2.2.2.1) HO294.out.1
          have HS8_ := cg_ hg (hHeld.2.2.2.2.2.2.2.2.1) (ry_ hg HO_270001.out HO294.out (by decide) rfl)
          have HS9_ := cg_ hg (hHeld.2.2.2.2.2.2.2.2.2.1) (ry_ hg HO_270001.out HO294.out (by decide) rfl)
          have HS10_ := cg_ hg (hHeld.2.2.2.2.2.2.2.2.2.2.1) (ry_ hg HO_270001.out HO294.out (by decide) rfl)
          have HS11_ := cg_ hg (hHeld.2.2.2.2.2.2.2.2.2.2.2.1) (ry_ hg HO_270001.out HO294.out (by decide) rfl)
          have HS12_ := cg_ hg (hHeld.2.2.2.2.2.2.2.2.2.2.2.2.1) (ry_ hg HO_270001.out HO294.out (by decide) rfl)
          have HS13_ := cga_ hg (hHeld.2.2.2.2.2.2.2.2.2.2.2.2.2.1) HO294.out.1
          have HS14_ := cga_ hg (hHeld.2.2.2.2.2.2.2.2.2.2.2.2.2.2.1) HO294.out.1
          have HS15_ := cga_ hg (hHeld.2.2.2.2.2.2.2.2.2.2.2.2.2.2.2.1) HO294.out.1
          have HS16_ := cg_ hg (hHeld.2.2.2.2.2.2.2.2.2.2.2.2.2.2.2.2.1) (ry_ hg HO_270001.out HO294.out (by decide) rfl)
          have HS17_ := cg_ hg (hHeld.2.2.2.2.2.2.2.2.2.2.2.2.2.2.2.2.2.1) (ry_ hg HO_270001.out HO294.out (by decide) rfl)
          have HS18_ := cg_ hg (hHeld.2.2.2.2.2.2.2.2.2.2.2.2.2.2.2.2.2.2.1) (ry_ hg HO_270001.out HO294.out (by decide) rfl)
          have HS19_ := cg_ hg (hHeld.2.2.2.2.2.2.2.2.2.2.2.2.2.2.2.2.2.2.2.1) (ry_ hg HO_270001.out HO294.out (by decide) rfl)
          have HS20_ := cg_ hg (hHeld.2.2.2.2.2.2.2.2.2.2.2.2.2.2.2.2.2.2.2.2) (ry_ hg HO_270001.out HO294.out (by decide) rfl)
          rw [← Ny295.out] at ho
          replace HO_270001 := Aside0.mk (Kd.R_over' HO_270001.out (Kd.R_typed HO294.out) (by decide) hg)
          replace BK269 := Aside0.mk (blk_grown (g := gb269) (o := .cells #[.int .i64 t262, .slice (some ad307) t263.length co9] 25 (0, 0)) BK269.out hg (Kd.R_ne HO294.out BK269.out (by decide)))
          replace HO290 := Aside0.mk (Kd.R_after (ok := (fun k_ => some k_ ≠ (.slice (some ad298) t266.length co10 : Value).ownBlock ∧ some k_ ≠ (v300 : Value).ownBlock)) (by (with_reducible repeat (first | apply rA3 | apply rN3 | apply rD3)); exact Kd.R_mono HO290.out (fun _ hk => by first | exact ⟨⟨hk.1.1, hk.2⟩, hk.1.2⟩ | trivial | simp_all)) hg hat)
          replace HO301 := Aside0.mk (Kd.R_after (ok := (fun k_ => some k_ ≠ (.slice (some ad298) t266.length co10 : Value).ownBlock ∧ some k_ ≠ (.slice Ao88 y288.length co88 : Value).ownBlock)) (by (with_reducible repeat (first | apply rA3 | apply rN3 | apply rD3)); exact Kd.R_mono HO301.out (fun _ hk => by first | exact ⟨⟨hk.1.1.2, hk.1.2⟩, hk.2⟩ | trivial | simp_all)) hg hat)
          replace HB := Aside0.mk (hb)
          replace HR280 := Aside0.mk ((show Kd.C k31 w95 (some ad298) y277.length y277 from by rw [Ny277.out]; exact Kd.C_take (m := (x6_2 : Int).toNat) ((rR3 (Kd.R_after (ok := (fun k_ => some k_ ≠ (.slice Ao88 y288.length co88 : Value).ownBlock ∧ some k_ ≠ (v300 : Value).ownBlock)) (by (with_reducible repeat (first | apply rA3 | apply rN3 | apply rD3)); exact Kd.R_mono HO_4.out (fun _ hk => by first | exact ⟨⟨hk.1.1.2, hk.2⟩, hk.1.2⟩ | trivial | simp_all)) hg hat)).2.2) KL82.out))
          replace HR287 := Aside0.mk ((show Kd.C k31 w95 A83 y284.length y284 from by rw [Ny284.out, KA83.out]; exact Kd.C_drop (m := ((ji26) : Int).toNat) (c := co10) ((rR3 (Kd.R_after (ok := (fun k_ => some k_ ≠ (.slice Ao88 y288.length co88 : Value).ownBlock ∧ some k_ ≠ (v300 : Value).ownBlock)) (by (with_reducible repeat (first | apply rA3 | apply rN3 | apply rD3)); exact Kd.R_mono HO_4.out (fun _ hk => by first | exact ⟨⟨hk.1.1.2, hk.2⟩, hk.1.2⟩ | trivial | simp_all)) hg hat)).2.2) KL83.out ((rR3 (Kd.R_after (ok := (fun k_ => some k_ ≠ (.slice Ao88 y288.length co88 : Value).ownBlock ∧ some k_ ≠ (v300 : Value).ownBlock)) (by (with_reducible repeat (first | apply rA3 | apply rN3 | apply rD3)); exact Kd.R_mono HO_4.out (fun _ hk => by first | exact ⟨⟨hk.1.1.2, hk.2⟩, hk.1.2⟩ | trivial | simp_all)) hg hat)).2.1)))
          replace HO_4 := Aside0.mk (Kd.R_after (ok := (fun k_ => some k_ ≠ (.slice Ao88 y288.length co88 : Value).ownBlock ∧ some k_ ≠ (v300 : Value).ownBlock)) (by (with_reducible repeat (first | apply rA3 | apply rN3 | apply rD3)); exact Kd.R_mono HO_4.out (fun _ hk => by first | exact ⟨⟨hk.1.1.2, hk.2⟩, hk.1.2⟩ | trivial | simp_all)) hg hat)
          have HO297 := Aside0.mk (ho)
          clear HO294 ho hb hg hat
          refine hK.out _ _ ⟨ct_ BK269.out 0, ct_ BK269.out 1, HS2_, HS3_, HS4_, HS5_, HS6_, HS7_, HS8_, HS9_, HS10_, HS11_, HS12_, HS13_, HS14_, HS15_, HS16_, HS17_, HS18_, HS19_, HS20_⟩ (fun hHeld => ?_)
          clear hK K
          refine nm1_ (some 57) ?_
          exact norm_ (by simp only [putAll, Act.put, List.setIfInBounds_toArray, List.set_cons_zero, List.set_cons_succ]) (hCont (v293, v296, v300) _ ⟨hHeld, (by (with_reducible repeat (first | apply rA3 | apply rN3 | apply rD3)); exact Kd.R_mono HO290.out (fun _ hk => by first | exact ⟨hk.2, ⟨hk.1.2, hk.1.1⟩⟩ | trivial | simp_all)), (by (with_reducible repeat (first | apply rA3 | apply rN3 | apply rD3)); exact Kd.R_mono HO297.out (fun _ hk => by first | exact ⟨hk.2.1, ⟨hk.2.2, hk.1⟩⟩ | trivial | simp_all)), (by (with_reducible repeat (first | apply rA3 | apply rN3 | apply rD3)); exact Kd.R_mono HO301.out (fun _ hk => by first | exact ⟨hk.1.2, ⟨hk.2, hk.1.1⟩⟩ | trivial | simp_all)), HO_270001.out, (by (with_reducible repeat (first | apply rA3 | apply rN3 | apply rD3)); exact Kd.R_mono HO_4.out (fun _ hk => by first | exact ⟨hk.1.1, ⟨hk.2, hk.1.2⟩⟩ | trivial | simp_all)), BK269.out, HB.out⟩)
        ·skip
         refine Kd.R_lit_step k31 _ 31 ?hg (N := 62) ?hd (xs := ([(⟨(rd_T31 t266 x6_2).f0, (rd_T31 t266 x6_2).f1, (rd_T31 t266 x6_2).f2⟩ : S31)] : List (S31))) (inner := [.int .i64 ((rd_T31 t266 x6_2).f0), .int .i64 ((rd_T31 t266 x6_2).f1), .int .i64 ((rd_T31 t266 x6_2).f2)]) (ok := fun _ => True) (okp := fun _ => True) ?hr ?hp (fun _ hk => hk) trivial (Below.refl _ _) (Nat.le_refl _) (by simp) ?_; (case hd => rfl); (case hg => rfl); (case hr => first | (go_simp; done) | (go_simp; rfl)); (case hp => exact (Reps.c3 (show Kd.M k31 _ _ _ (⟨(rd_T31 t266 x6_2).f0, (rd_T31 t266 x6_2).f1, (rd_T31 t266 x6_2).f2⟩ : S31) [.int .i64 ((rd_T31 t266 x6_2).f0), .int .i64 ((rd_T31 t266 x6_2).f1), .int .i64 ((rd_T31 t266 x6_2).f2)] from (k31_mkM _ _ _ (⟨(rd_T31 t266 x6_2).f0, (rd_T31 t266 x6_2).f1, (rd_T31 t266 x6_2).f2⟩ : S31) )) (Reps.none _ _)))
         intro v300 w91 ho92 hb hg_ hnew_
         have HS2_ := (hb.cell (World.block_lt_of_cell? _ _ (hHeld.2.2.1))).trans (hHeld.2.2.1)
         have HS3_ := (hb.cell (World.block_lt_of_cell? _ _ (hHeld.2.2.2.1))).trans (hHeld.2.2.2.1)
         have HS4_ := (hb.cell (World.block_lt_of_cell? _ _ (hHeld.2.2.2.2.1))).trans (hHeld.2.2.2.2.1)
         have HS5_ := (hb.cell (World.block_lt_of_cell? _ _ (hHeld.2.2.2.2.2.1))).trans (hHeld.2.2.2.2.2.1)
         have HS6_ := (hb.cell (World.block_lt_of_cell? _ _ (hHeld.2.2.2.2.2.2.1))).trans (hHeld.2.2.2.2.2.2.1)
         have HS7_ := (hb.cell (World.block_lt_of_cell? _ _ (hHeld.2.2.2.2.2.2.2.1))).trans (hHeld.2.2.2.2.2.2.2.1)
         have HS8_ := (hb.cell (World.block_lt_of_cell? _ _ (hHeld.2.2.2.2.2.2.2.2.1))).trans (hHeld.2.2.2.2.2.2.2.2.1)
         have HS9_ := (hb.cell (World.block_lt_of_cell? _ _ (hHeld.2.2.2.2.2.2.2.2.2.1))).trans (hHeld.2.2.2.2.2.2.2.2.2.1)
         have HS10_ := (hb.cell (World.block_lt_of_cell? _ _ (hHeld.2.2.2.2.2.2.2.2.2.2.1))).trans (hHeld.2.2.2.2.2.2.2.2.2.2.1)
         have HS11_ := (hb.cell (World.block_lt_of_cell? _ _ (hHeld.2.2.2.2.2.2.2.2.2.2.2.1))).trans (hHeld.2.2.2.2.2.2.2.2.2.2.2.1)
         have HS12_ := (hb.cell (World.block_lt_of_cell? _ _ (hHeld.2.2.2.2.2.2.2.2.2.2.2.2.1))).trans (hHeld.2.2.2.2.2.2.2.2.2.2.2.2.1)
         have HS13_ := (hb.cell (World.block_lt_of_cell? _ _ (hHeld.2.2.2.2.2.2.2.2.2.2.2.2.2.1))).trans (hHeld.2.2.2.2.2.2.2.2.2.2.2.2.2.1)
         have HS14_ := (hb.cell (World.block_lt_of_cell? _ _ (hHeld.2.2.2.2.2.2.2.2.2.2.2.2.2.2.1))).trans (hHeld.2.2.2.2.2.2.2.2.2.2.2.2.2.2.1)
         have HS15_ := (hb.cell (World.block_lt_of_cell? _ _ (hHeld.2.2.2.2.2.2.2.2.2.2.2.2.2.2.2.1))).trans (hHeld.2.2.2.2.2.2.2.2.2.2.2.2.2.2.2.1)
         have HS16_ := (hb.cell (World.block_lt_of_cell? _ _ (hHeld.2.2.2.2.2.2.2.2.2.2.2.2.2.2.2.2.1))).trans (hHeld.2.2.2.2.2.2.2.2.2.2.2.2.2.2.2.2.1)
         have HS17_ := (hb.cell (World.block_lt_of_cell? _ _ (hHeld.2.2.2.2.2.2.2.2.2.2.2.2.2.2.2.2.2.1))).trans (hHeld.2.2.2.2.2.2.2.2.2.2.2.2.2.2.2.2.2.1)
         have HS18_ := (hb.cell (World.block_lt_of_cell? _ _ (hHeld.2.2.2.2.2.2.2.2.2.2.2.2.2.2.2.2.2.2.1))).trans (hHeld.2.2.2.2.2.2.2.2.2.2.2.2.2.2.2.2.2.2.1)
         have HS19_ := (hb.cell (World.block_lt_of_cell? _ _ (hHeld.2.2.2.2.2.2.2.2.2.2.2.2.2.2.2.2.2.2.2.1))).trans (hHeld.2.2.2.2.2.2.2.2.2.2.2.2.2.2.2.2.2.2.2.1)
         have HS20_ := (hb.cell (World.block_lt_of_cell? _ _ (hHeld.2.2.2.2.2.2.2.2.2.2.2.2.2.2.2.2.2.2.2.2))).trans (hHeld.2.2.2.2.2.2.2.2.2.2.2.2.2.2.2.2.2.2.2.2)
         clear hg_ hnew_
         (first | rw [← Ny299.out] at ho92 | (simp only [Int.reduceToNat] at ho92; rw [← Ny299.out] at ho92))
         replace HO_270001 := Aside0.mk (rB3 HO_270001.out hb)
         have HO301 := Aside0.mk (Kd.R_lower (Kd.R_new' (Kd.R_new' ho92 (Kd.R_lt HO_4.out)) (Kd.R_lt HO290.out)) (eZ3 HB.out))
         replace HO_4 := Aside0.mk (Kd.R_elder' HO_4.out (Kd.R_base ho92) hb)
         replace HO290 := Aside0.mk (Kd.R_elder' HO290.out (Kd.R_base ho92) hb)
         replace BK269 := kb_ BK269 hb
         replace HR280 := Aside0.mk (Kd.C_below (by repeat (first | (with_reducible exact HR280.out) | (with_reducible refine cA3 ?_ _) | (with_reducible refine cN3 ?_ _) | (with_reducible refine cD3 ?_) | exact HR280.out)) hb)
         replace HR287 := Aside0.mk (Kd.C_below (by repeat (first | (with_reducible exact HR287.out) | (with_reducible refine cA3 ?_ _) | (with_reducible refine cN3 ?_ _) | (with_reducible refine cD3 ?_) | exact HR287.out)) hb)
         replace HB := Aside0.mk (below_step HB.out hb)
         clear hb ho92
         refine hK.out _ _ ⟨ct_ BK269.out 0, ct_ BK269.out 1, HS2_, HS3_, HS4_, HS5_, HS6_, HS7_, HS8_, HS9_, HS10_, HS11_, HS12_, HS13_, HS14_, HS15_, HS16_, HS17_, HS18_, HS19_, HS20_⟩ (fun hHeld => ?_)
         clear hK K
         refine nm1_ (some 62) ?_
         refine one_ (i := 6) (N := some 55) z3_28 rfl rfl (one_of HT_.out (by kernel_rfl)) (by decide) (fun K hK => ?_)
         refine Kd.R_lit_step k31 _ 31 ?hg (N := 55) ?hd (xs := ([] : List (S31))) (inner := []) (ok := fun _ => True) (okp := fun _ => True) ?hr ?hp (fun _ hk => hk) trivial (Below.refl _ _) (Nat.le_refl _) (by simp) ?_; (case hd => rfl); (case hg => rfl); (case hr => first | (go_simp; done) | (go_simp; rfl)); (case hp => exact (Reps.none _ _))
         intro v293 w93 ho94 hb hg_ hnew_
         have HS2_ := (hb.cell (World.block_lt_of_cell? _ _ (hHeld.2.2.1))).trans (hHeld.2.2.1)
         have HS3_ := (hb.cell (World.block_lt_of_cell? _ _ (hHeld.2.2.2.1))).trans (hHeld.2.2.2.1)
         have HS4_ := (hb.cell (World.block_lt_of_cell? _ _ (hHeld.2.2.2.2.1))).trans (hHeld.2.2.2.2.1)
         have HS5_ := (hb.cell (World.block_lt_of_cell? _ _ (hHeld.2.2.2.2.2.1))).trans (hHeld.2.2.2.2.2.1)
         have HS6_ := (hb.cell (World.block_lt_of_cell? _ _ (hHeld.2.2.2.2.2.2.1))).trans (hHeld.2.2.2.2.2.2.1)
         have HS7_ := (hb.cell (World.block_lt_of_cell? _ _ (hHeld.2.2.2.2.2.2.2.1))).trans (hHeld.2.2.2.2.2.2.2.1)
         have HS8_ := (hb.cell (World.block_lt_of_cell? _ _ (hHeld.2.2.2.2.2.2.2.2.1))).trans (hHeld.2.2.2.2.2.2.2.2.1)
         have HS9_ := (hb.cell (World.block_lt_of_cell? _ _ (hHeld.2.2.2.2.2.2.2.2.2.1))).trans (hHeld.2.2.2.2.2.2.2.2.2.1)
         have HS10_ := (hb.cell (World.block_lt_of_cell? _ _ (hHeld.2.2.2.2.2.2.2.2.2.2.1))).trans (hHeld.2.2.2.2.2.2.2.2.2.2.1)
         have HS11_ := (hb.cell (World.block_lt_of_cell? _ _ (hHeld.2.2.2.2.2.2.2.2.2.2.2.1))).trans (hHeld.2.2.2.2.2.2.2.2.2.2.2.1)
         have HS12_ := (hb.cell (World.block_lt_of_cell? _ _ (hHeld.2.2.2.2.2.2.2.2.2.2.2.2.1))).trans (hHeld.2.2.2.2.2.2.2.2.2.2.2.2.1)
         have HS13_ := (hb.cell (World.block_lt_of_cell? _ _ (hHeld.2.2.2.2.2.2.2.2.2.2.2.2.2.1))).trans (hHeld.2.2.2.2.2.2.2.2.2.2.2.2.2.1)
         have HS14_ := (hb.cell (World.block_lt_of_cell? _ _ (hHeld.2.2.2.2.2.2.2.2.2.2.2.2.2.2.1))).trans (hHeld.2.2.2.2.2.2.2.2.2.2.2.2.2.2.1)
         have HS15_ := (hb.cell (World.block_lt_of_cell? _ _ (hHeld.2.2.2.2.2.2.2.2.2.2.2.2.2.2.2.1))).trans (hHeld.2.2.2.2.2.2.2.2.2.2.2.2.2.2.2.1)
         have HS16_ := (hb.cell (World.block_lt_of_cell? _ _ (hHeld.2.2.2.2.2.2.2.2.2.2.2.2.2.2.2.2.1))).trans (hHeld.2.2.2.2.2.2.2.2.2.2.2.2.2.2.2.2.1)
         have HS17_ := (hb.cell (World.block_lt_of_cell? _ _ (hHeld.2.2.2.2.2.2.2.2.2.2.2.2.2.2.2.2.2.1))).trans (hHeld.2.2.2.2.2.2.2.2.2.2.2.2.2.2.2.2.2.1)
         have HS18_ := (hb.cell (World.block_lt_of_cell? _ _ (hHeld.2.2.2.2.2.2.2.2.2.2.2.2.2.2.2.2.2.2.1))).trans (hHeld.2.2.2.2.2.2.2.2.2.2.2.2.2.2.2.2.2.2.1)
         have HS19_ := (hb.cell (World.block_lt_of_cell? _ _ (hHeld.2.2.2.2.2.2.2.2.2.2.2.2.2.2.2.2.2.2.2.1))).trans (hHeld.2.2.2.2.2.2.2.2.2.2.2.2.2.2.2.2.2.2.2.1)
         have HS20_ := (hb.cell (World.block_lt_of_cell? _ _ (hHeld.2.2.2.2.2.2.2.2.2.2.2.2.2.2.2.2.2.2.2.2))).trans (hHeld.2.2.2.2.2.2.2.2.2.2.2.2.2.2.2.2.2.2.2.2)
         clear hg_ hnew_
         (first | rw [← Ny292.out] at ho94 | (simp only [Int.reduceToNat] at ho94; rw [← Ny292.out] at ho94))
         replace HO_270001 := Aside0.mk (rB3 HO_270001.out hb)
         have HO294 := Aside0.mk (Kd.R_lower (Kd.R_new' (Kd.R_new' (Kd.R_new' ho94 (Kd.R_lt HO_4.out)) (Kd.R_lt HO290.out)) (Kd.R_lt HO301.out)) (eZ3 HB.out))
         replace HO_4 := Aside0.mk (Kd.R_elder' HO_4.out (Kd.R_base ho94) hb)
         replace HO290 := Aside0.mk (Kd.R_elder' HO290.out (Kd.R_base ho94) hb)
         replace HO301 := Aside0.mk (Kd.R_elder' HO301.out (Kd.R_base ho94) hb)
         replace BK269 := kb_ BK269 hb
         replace HR280 := Aside0.mk (Kd.C_below (by repeat (first | (with_reducible exact HR280.out) | (with_reducible refine cA3 ?_ _) | (with_reducible refine cN3 ?_ _) | (with_reducible refine cD3 ?_) | exact HR280.out)) hb)
         replace HR287 := Aside0.mk (Kd.C_below (by repeat (first | (with_reducible exact HR287.out) | (with_reducible refine cA3 ?_ _) | (with_reducible refine cN3 ?_ _) | (with_reducible refine cD3 ?_) | exact HR287.out)) hb)
         replace HB := Aside0.mk (below_step HB.out hb)
         clear hb ho94
         refine hK.out _ _ ⟨ct_ BK269.out 0, ct_ BK269.out 1, HS2_, HS3_, HS4_, HS5_, HS6_, HS7_, HS8_, HS9_, HS10_, HS11_, HS12_, HS13_, HS14_, HS15_, HS16_, HS17_, HS18_, HS19_, HS20_⟩ (fun hHeld => ?_)
         clear hK K
         refine nm1_ (some 55) ?_
         refine one_ (i := 8) (N := some 57) z3_24 rfl rfl (one_of HT_.out (by kernel_rfl)) (by decide) (fun K hK => ?_)
         refine Kd.R_append_rows_step k31 (w0 := w) w.heap.size (by rfl) (.tmp 55) (.tmp 56) 26 31 (.agg #[(.int .i64 0), (.int .i64 0), (.int .i64 0)]) 24 rfl Try.underlying26 info31 rfl (by decide) (by omega) v293 y292 t266 _ _ _ (fun k_ => some k_ ≠ (.slice (some ad298) t266.length co10 : Value).ownBlock ∧ some k_ ≠ (.slice Ao88 y288.length co88 : Value).ownBlock ∧ some k_ ≠ (v300 : Value).ownBlock) (fun _ => False) rfl rfl ?aO ?aR (fun _ _ h => h) (fun _ h => h.elim) ?aF ?aB ?aS ?aL ?_
         (case aR => repeat (first | exact (rR3 HO_4.out).2.2 | (with_reducible refine cA3 ?_ _) | (with_reducible refine cN3 ?_ _) | (with_reducible refine cD3 ?_)))
         (case aB => exact HB.out)
         (case aF => exact (fun k_ hk => ⟨Kd.fresh' (Kd.R_lt HO_4.out) k_ hk, Kd.fresh' (Kd.R_lt HO290.out) k_ hk, Kd.fresh' (Kd.R_lt HO301.out) k_ hk⟩))
         (case aO => exact (by (with_reducible repeat (first | apply rA3 | apply rN3 | apply rD3)); exact Kd.R_mono HO294.out (fun _ hk => by first | exact ⟨hk.1.1.2, ⟨hk.1.2, hk.2⟩⟩ | trivial | simp_all)))
         (case aS => exact (eZ3 HB.out))
         (case aL => have := LMc32.out; omega)
         intro v296 w95 ho hb hg hat
         have HS2_ := cga_ hg (hHeld.2.2.1) HO294.out.1
         have HS3_ := cga_ hg (hHeld.2.2.2.1) HO294.out.1
         have HS4_ := cga_ hg (hHeld.2.2.2.2.1) HO294.out.1
         have HS5_ := cga_ hg (hHeld.2.2.2.2.2.1) HO294.out.1
         have HS6_ := cga_ hg (hHeld.2.2.2.2.2.2.1) HO294.out.1
         have HS7_ := cga_ hg (hHeld.2.2.2.2.2.2.2.1) HO294.out.1
         have HS8_ := cg_ hg (hHeld.2.2.2.2.2.2.2.2.1) (ry_ hg HO_270001.out HO294.out (by decide) rfl)
         have HS9_ := cg_ hg (hHeld.2.2.2.2.2.2.2.2.2.1) (ry_ hg HO_270001.out HO294.out (by decide) rfl)
         have HS10_ := cg_ hg (hHeld.2.2.2.2.2.2.2.2.2.2.1) (ry_ hg HO_270001.out HO294.out (by decide) rfl)
         have HS11_ := cg_ hg (hHeld.2.2.2.2.2.2.2.2.2.2.2.1) (ry_ hg HO_270001.out HO294.out (by decide) rfl)
         have HS12_ := cg_ hg (hHeld.2.2.2.2.2.2.2.2.2.2.2.2.1) (ry_ hg HO_270001.out HO294.out (by decide) rfl)
         have HS13_ := cga_ hg (hHeld.2.2.2.2.2.2.2.2.2.2.2.2.2.1) HO294.out.1
         have HS14_ := cga_ hg (hHeld.2.2.2.2.2.2.2.2.2.2.2.2.2.2.1) HO294.out.1
         have HS15_ := cga_ hg (hHeld.2.2.2.2.2.2.2.2.2.2.2.2.2.2.2.1) HO294.out.1
         have HS16_ := cg_ hg (hHeld.2.2.2.2.2.2.2.2.2.2.2.2.2.2.2.2.1) (ry_ hg HO_270001.out HO294.out (by decide) rfl)
         have HS17_ := cg_ hg (hHeld.2.2.2.2.2.2.2.2.2.2.2.2.2.2.2.2.2.1) (ry_ hg HO_270001.out HO294.out (by decide) rfl)
         have HS18_ := cg_ hg (hHeld.2.2.2.2.2.2.2.2.2.2.2.2.2.2.2.2.2.2.1) (ry_ hg HO_270001.out HO294.out (by decide) rfl)
         have HS19_ := cg_ hg (hHeld.2.2.2.2.2.2.2.2.2.2.2.2.2.2.2.2.2.2.2.1) (ry_ hg HO_270001.out HO294.out (by decide) rfl)
         have HS20_ := cg_ hg (hHeld.2.2.2.2.2.2.2.2.2.2.2.2.2.2.2.2.2.2.2.2) (ry_ hg HO_270001.out HO294.out (by decide) rfl)
         rw [← Ny295.out] at ho
         replace HO_270001 := Aside0.mk (Kd.R_over' HO_270001.out (Kd.R_typed HO294.out) (by decide) hg)
         replace BK269 := Aside0.mk (blk_grown (g := gb269) (o := .cells #[.int .i64 t262, .slice (some ad307) t263.length co9] 25 (0, 0)) BK269.out hg (Kd.R_ne HO294.out BK269.out (by decide)))
         replace HO290 := Aside0.mk (Kd.R_after (ok := (fun k_ => some k_ ≠ (.slice (some ad298) t266.length co10 : Value).ownBlock ∧ some k_ ≠ (v300 : Value).ownBlock)) HO290.out hg hat)
         replace HO301 := Aside0.mk (Kd.R_after (ok := (fun k_ => some k_ ≠ (.slice (some ad298) t266.length co10 : Value).ownBlock ∧ some k_ ≠ (.slice Ao88 y288.length co88 : Value).ownBlock)) (by (with_reducible repeat (first | apply rA3 | apply rN3 | apply rD3)); exact Kd.R_mono HO301.out (fun _ hk => by first | exact ⟨⟨hk.1.1.2, hk.1.2⟩, hk.2⟩ | trivial | simp_all)) hg hat)
         replace HB := Aside0.mk (hb)
         replace HR280 := Aside0.mk ((show Kd.C k31 w95 (some ad298) y277.length y277 from by rw [Ny277.out]; exact Kd.C_take (m := (x6_2 : Int).toNat) ((rR3 (Kd.R_after (ok := (fun k_ => some k_ ≠ (.slice Ao88 y288.length co88 : Value).ownBlock ∧ some k_ ≠ (v300 : Value).ownBlock)) (by (with_reducible repeat (first | apply rA3 | apply rN3 | apply rD3)); exact Kd.R_mono HO_4.out (fun _ hk => by first | exact ⟨⟨hk.1.1.2, hk.1.2⟩, hk.2⟩ | trivial | simp_all)) hg hat)).2.2) KL82.out))
         replace HR287 := Aside0.mk ((show Kd.C k31 w95 A83 y284.length y284 from by rw [Ny284.out, KA83.out]; exact Kd.C_drop (m := ((ji26) : Int).toNat) (c := co10) ((rR3 (Kd.R_after (ok := (fun k_ => some k_ ≠ (.slice Ao88 y288.length co88 : Value).ownBlock ∧ some k_ ≠ (v300 : Value).ownBlock)) (by (with_reducible repeat (first | apply rA3 | apply rN3 | apply rD3)); exact Kd.R_mono HO_4.out (fun _ hk => by first | exact ⟨⟨hk.1.1.2, hk.1.2⟩, hk.2⟩ | trivial | simp_all)) hg hat)).2.2) KL83.out ((rR3 (Kd.R_after (ok := (fun k_ => some k_ ≠ (.slice Ao88 y288.length co88 : Value).ownBlock ∧ some k_ ≠ (v300 : Value).ownBlock)) (by (with_reducible repeat (first | apply rA3 | apply rN3 | apply rD3)); exact Kd.R_mono HO_4.out (fun _ hk => by first | exact ⟨⟨hk.1.1.2, hk.1.2⟩, hk.2⟩ | trivial | simp_all)) hg hat)).2.1)))
         replace HO_4 := Aside0.mk (Kd.R_after (ok := (fun k_ => some k_ ≠ (.slice Ao88 y288.length co88 : Value).ownBlock ∧ some k_ ≠ (v300 : Value).ownBlock)) (by (with_reducible repeat (first | apply rA3 | apply rN3 | apply rD3)); exact Kd.R_mono HO_4.out (fun _ hk => by first | exact ⟨⟨hk.1.1.2, hk.1.2⟩, hk.2⟩ | trivial | simp_all)) hg hat)
         have HO297 := Aside0.mk (ho)
         clear HO294 ho hb hg hat
         refine hK.out _ _ ⟨ct_ BK269.out 0, ct_ BK269.out 1, HS2_, HS3_, HS4_, HS5_, HS6_, HS7_, HS8_, HS9_, HS10_, HS11_, HS12_, HS13_, HS14_, HS15_, HS16_, HS17_, HS18_, HS19_, HS20_⟩ (fun hHeld => ?_)
         clear hK K
         refine nm1_ (some 57) ?_
         exact norm_ (by simp only [putAll, Act.put, List.setIfInBounds_toArray, List.set_cons_zero, List.set_cons_succ]) (hCont (v293, v296, v300) _ ⟨hHeld, (by (with_reducible repeat (first | apply rA3 | apply rN3 | apply rD3)); exact Kd.R_mono HO290.out (fun _ hk => by first | exact ⟨hk.2, ⟨hk.1.2, hk.1.1⟩⟩ | trivial | simp_all)), (by (with_reducible repeat (first | apply rA3 | apply rN3 | apply rD3)); exact Kd.R_mono HO297.out (fun _ hk => by first | exact ⟨hk.2.1, ⟨hk.2.2, hk.1⟩⟩ | trivial | simp_all)), (by (with_reducible repeat (first | apply rA3 | apply rN3 | apply rD3)); exact Kd.R_mono HO301.out (fun _ hk => by first | exact ⟨hk.1.2, ⟨hk.2, hk.1.1⟩⟩ | trivial | simp_all)), HO_270001.out, (by (with_reducible repeat (first | apply rA3 | apply rN3 | apply rD3)); exact Kd.R_mono HO_4.out (fun _ hk => by first | exact ⟨hk.1.1, ⟨hk.2, hk.1.2⟩⟩ | trivial | simp_all)), BK269.out, HB.out⟩)
       rintro ⟨v293, v296, v300⟩ w96 ⟨hS_, h0_, h1_, h2_, h3_, h4_, h5_, h6_⟩
       replace HO290 : Aside0 (Kd.R k31 31 w96 w.heap.size (fun k_ => some k_ ≠ (v296 : Value).ownBlock ∧ some k_ ≠ (v300 : Value).ownBlock ∧ some k_ ≠ (.slice (some ad298) t266.length co10 : Value).ownBlock) (.slice Ao88 y288.length co88) y288) := ⟨h0_⟩
       have HO297 : Aside0 (Kd.R k31 31 w96 w.heap.size (fun k_ => some k_ ≠ (.slice Ao88 y288.length co88 : Value).ownBlock ∧ some k_ ≠ (v300 : Value).ownBlock ∧ some k_ ≠ (.slice (some ad298) t266.length co10 : Value).ownBlock) v296 y295) := ⟨h1_⟩
       have HO301 : Aside0 (Kd.R k31 31 w96 w.heap.size (fun k_ => some k_ ≠ (.slice Ao88 y288.length co88 : Value).ownBlock ∧ some k_ ≠ (v296 : Value).ownBlock ∧ some k_ ≠ (.slice (some ad298) t266.length co10 : Value).ownBlock) v300 y299) := ⟨h2_⟩
       replace HO_270001 : Aside0 (Kd.R k33 33 w96 w.heap.size (fun _ => True) (.slice (some ad307) t263.length co9) t263) := ⟨h3_⟩
       replace HO_4 : Aside0 (Kd.R k31 31 w96 w.heap.size (fun k_ => some k_ ≠ (.slice Ao88 y288.length co88 : Value).ownBlock ∧ some k_ ≠ (v296 : Value).ownBlock ∧ some k_ ≠ (v300 : Value).ownBlock) (.slice (some ad298) t266.length co10) t266) := ⟨h4_⟩
       replace BK269 : Aside0 (w96.heap[gb269]? = some (.cells #[.int .i64 t262, .slice (some ad307) t263.length co9] 25 (0, 0))) := ⟨h5_⟩
       replace HB : Aside0 (Below w.heap.size w w96) := ⟨h6_⟩
       clear HR280 HR287 h0_ h1_ h2_ h3_ h4_ h5_ h6_
       have hHeld : w96.cell? ⟨gb269, 0, none⟩ = some (.int .i64 t262) ∧ w96.cell? ⟨gb269, 1, none⟩ = some (.slice (some ad307) t263.length co9) ∧ w96.cell? (ad298.add ((x6_2).toNat * 3)) = some (.int .i64 ((rd_T31 t266 x6_2).f0)) ∧ w96.cell? ⟨(ad298.add ((x6_2).toNat * 3)).block, (ad298.add ((x6_2).toNat * 3)).off + 1, none⟩ = some (.int .i64 ((rd_T31 t266 x6_2).f1)) ∧ w96.cell? ⟨(ad298.add ((x6_2).toNat * 3)).block, (ad298.add ((x6_2).toNat * 3)).off + 2, none⟩ = some (.int .i64 ((rd_T31 t266 x6_2).f2)) ∧ w96.cell? (ad298.add ((x6_2).toNat * 3)) = some (.int .i64 ((rd_T31 t266 x6_2).f0)) ∧ w96.cell? ⟨(ad298.add ((x6_2).toNat * 3)).block, (ad298.add ((x6_2).toNat * 3)).off + 1, none⟩ = some (.int .i64 ((rd_T31 t266 x6_2).f1)) ∧ w96.cell? ⟨(ad298.add ((x6_2).toNat * 3)).block, (ad298.add ((x6_2).toNat * 3)).off + 2, none⟩ = some (.int .i64 ((rd_T31 t266 x6_2).f2)) ∧ w96.cell? (ad307.add ((((rd_T31 t266 x6_2).f0)).toNat * 5)) = some (.int .i64 ((rd_T33 t263 ((rd_T31 t266 x6_2).f0)).f0)) ∧ w96.cell? ⟨(ad307.add ((((rd_T31 t266 x6_2).f0)).toNat * 5)).block, (ad307.add ((((rd_T31 t266 x6_2).f0)).toNat * 5)).off + 1, none⟩ = some (.int .i64 ((rd_T33 t263 ((rd_T31 t266 x6_2).f0)).f1)) ∧ w96.cell? ⟨(ad307.add ((((rd_T31 t266 x6_2).f0)).toNat * 5)).block, (ad307.add ((((rd_T31 t266 x6_2).f0)).toNat * 5)).off + 2, none⟩ = some (.int .i64 ((rd_T33 t263 ((rd_T31 t266 x6_2).f0)).f2)) ∧ w96.cell? ⟨(ad307.add ((((rd_T31 t266 x6_2).f0)).toNat * 5)).block, (ad307.add ((((rd_T31 t266 x6_2).f0)).toNat * 5)).off + 3, none⟩ = some (.int .i64 ((rd_T33 t263 ((rd_T31 t266 x6_2).f0)).f3)) ∧ w96.cell? ⟨(ad307.add ((((rd_T31 t266 x6_2).f0)).toNat * 5)).block, (ad307.add ((((rd_T31 t266 x6_2).f0)).toNat * 5)).off + 4, none⟩ = some (.int .i64 ((rd_T33 t263 ((rd_T31 t266 x6_2).f0)).f4)) ∧ w96.cell? (ad298.add ((x6_2).toNat * 3)) = some (.int .i64 ((rd_T31 t266 x6_2).f0)) ∧ w96.cell? ⟨(ad298.add ((x6_2).toNat * 3)).block, (ad298.add ((x6_2).toNat * 3)).off + 1, none⟩ = some (.int .i64 ((rd_T31 t266 x6_2).f1)) ∧ w96.cell? ⟨(ad298.add ((x6_2).toNat * 3)).block, (ad298.add ((x6_2).toNat * 3)).off + 2, none⟩ = some (.int .i64 ((rd_T31 t266 x6_2).f2)) ∧ w96.cell? (ad307.add ((((rd_T31 t266 x6_2).f1)).toNat * 5)) = some (.int .i64 ((rd_T33 t263 ((rd_T31 t266 x6_2).f1)).f0)) ∧ w96.cell? ⟨(ad307.add ((((rd_T31 t266 x6_2).f1)).toNat * 5)).block, (ad307.add ((((rd_T31 t266 x6_2).f1)).toNat * 5)).off + 1, none⟩ = some (.int .i64 ((rd_T33 t263 ((rd_T31 t266 x6_2).f1)).f1)) ∧ w96.cell? ⟨(ad307.add ((((rd_T31 t266 x6_2).f1)).toNat * 5)).block, (ad307.add ((((rd_T31 t266 x6_2).f1)).toNat * 5)).off + 2, none⟩ = some (.int .i64 ((rd_T33 t263 ((rd_T31 t266 x6_2).f1)).f2)) ∧ w96.cell? ⟨(ad307.add ((((rd_T31 t266 x6_2).f1)).toNat * 5)).block, (ad307.add ((((rd_T31 t266 x6_2).f1)).toNat * 5)).off + 3, none⟩ = some (.int .i64 ((rd_T33 t263 ((rd_T31 t266 x6_2).f1)).f3)) ∧ w96.cell? ⟨(ad307.add ((((rd_T31 t266 x6_2).f1)).toNat * 5)).block, (ad307.add ((((rd_T31 t266 x6_2).f1)).toNat * 5)).off + 4, none⟩ = some (.int .i64 ((rd_T33 t263 ((rd_T31 t266 x6_2).f1)).f4)) := hS_
       obtain ⟨Ao98, co98, eo98⟩ := Kd.R_slice HO301.out
       (first | subst eo98 | (injection eo98 with f1_ f2_ f3_; have f4_ := f1_.symm; have f5_ := f3_.symm; clear f1_ f2_ f3_; subst f4_; subst f5_))
       refine nm2_ ?_
       refine one_ (i := 14) (N := some 63) z3_29 rfl rfl (one_of HT_.out (by kernel_rfl)) (by decide) (fun K hK => ?_)
       refine Kd.R_append_rows_step k31 (w0 := w) w.heap.size (by rfl) (.tmp 57) (.tmp 62) 26 31 (.agg #[(.int .i64 0), (.int .i64 0), (.int .i64 0)]) 24 rfl Try.underlying26 info31 rfl (by decide) (by omega) v296 y295 y299 _ _ _ (fun k_ => some k_ ≠ (.slice (some ad298) t266.length co10 : Value).ownBlock ∧ some k_ ≠ (.slice Ao88 y288.length co88 : Value).ownBlock ∧ some k_ ≠ (.slice Ao98 y299.length co98 : Value).ownBlock) (fun _ => False) rfl rfl ?aO ?aR (fun _ _ h => h) (fun _ h => h.elim) ?aF ?aB ?aS ?aL ?_
       (case aR => repeat (first | exact (rR3 HO301.out).2.2 | (with_reducible refine cA3 ?_ _) | (with_reducible refine cN3 ?_ _) | (with_reducible refine cD3 ?_)))
       (case aB => exact HB.out)
       (case aF => exact (fun k_ hk => ⟨Kd.fresh' (Kd.R_lt HO_4.out) k_ hk, Kd.fresh' (Kd.R_lt HO290.out) k_ hk, Kd.fresh' (Kd.R_lt HO301.out) k_ hk⟩))
       (case aO => exact (by (with_reducible repeat (first | apply rA3 | apply rN3 | apply rD3)); exact Kd.R_mono HO297.out (fun _ hk => by first | exact ⟨hk.2.2, ⟨hk.1, hk.2.1⟩⟩ | trivial | simp_all)))
       (case aS => exact (eZ3 HB.out))
       (case aL => have := LMc33.out; omega)
       intro v303 w97 ho hb hg hat
       have HS2_ := cga_ hg (hHeld.2.2.1) HO297.out.1
       have HS3_ := cga_ hg (hHeld.2.2.2.1) HO297.out.1
       have HS4_ := cga_ hg (hHeld.2.2.2.2.1) HO297.out.1
       have HS5_ := cga_ hg (hHeld.2.2.2.2.2.1) HO297.out.1
       have HS6_ := cga_ hg (hHeld.2.2.2.2.2.2.1) HO297.out.1
       have HS7_ := cga_ hg (hHeld.2.2.2.2.2.2.2.1) HO297.out.1
       have HS8_ := cg_ hg (hHeld.2.2.2.2.2.2.2.2.1) (ry_ hg HO_270001.out HO297.out (by decide) rfl)
       have HS9_ := cg_ hg (hHeld.2.2.2.2.2.2.2.2.2.1) (ry_ hg HO_270001.out HO297.out (by decide) rfl)
       have HS10_ := cg_ hg (hHeld.2.2.2.2.2.2.2.2.2.2.1) (ry_ hg HO_270001.out HO297.out (by decide) rfl)
       have HS11_ := cg_ hg (hHeld.2.2.2.2.2.2.2.2.2.2.2.1) (ry_ hg HO_270001.out HO297.out (by decide) rfl)
       have HS12_ := cg_ hg (hHeld.2.2.2.2.2.2.2.2.2.2.2.2.1) (ry_ hg HO_270001.out HO297.out (by decide) rfl)
       have HS13_ := cga_ hg (hHeld.2.2.2.2.2.2.2.2.2.2.2.2.2.1) HO297.out.1
       have HS14_ := cga_ hg (hHeld.2.2.2.2.2.2.2.2.2.2.2.2.2.2.1) HO297.out.1
       have HS15_ := cga_ hg (hHeld.2.2.2.2.2.2.2.2.2.2.2.2.2.2.2.1) HO297.out.1
       have HS16_ := cg_ hg (hHeld.2.2.2.2.2.2.2.2.2.2.2.2.2.2.2.2.1) (ry_ hg HO_270001.out HO297.out (by decide) rfl)
       have HS17_ := cg_ hg (hHeld.2.2.2.2.2.2.2.2.2.2.2.2.2.2.2.2.2.1) (ry_ hg HO_270001.out HO297.out (by decide) rfl)
       have HS18_ := cg_ hg (hHeld.2.2.2.2.2.2.2.2.2.2.2.2.2.2.2.2.2.2.1) (ry_ hg HO_270001.out HO297.out (by decide) rfl)
       have HS19_ := cg_ hg (hHeld.2.2.2.2.2.2.2.2.2.2.2.2.2.2.2.2.2.2.2.1) (ry_ hg HO_270001.out HO297.out (by decide) rfl)
       have HS20_ := cg_ hg (hHeld.2.2.2.2.2.2.2.2.2.2.2.2.2.2.2.2.2.2.2.2) (ry_ hg HO_270001.out HO297.out (by decide) rfl)
       rw [← Ny302.out] at ho
       replace HO_4 := Aside0.mk (Kd.R_after (ok := (fun k_ => some k_ ≠ (.slice Ao88 y288.length co88 : Value).ownBlock ∧ some k_ ≠ (.slice Ao98 y299.length co98 : Value).ownBlock)) (by (with_reducible repeat (first | apply rA3 | apply rN3 | apply rD3)); exact Kd.R_mono HO_4.out (fun _ hk => by first | exact ⟨⟨hk.1, hk.2.2⟩, hk.2.1⟩ | trivial | simp_all)) hg hat)
       replace HO_270001 := Aside0.mk (Kd.R_over' HO_270001.out (Kd.R_typed HO297.out) (by decide) hg)
       replace BK269 := Aside0.mk (blk_grown (g := gb269) (o := .cells #[.int .i64 t262, .slice (some ad307) t263.length co9] 25 (0, 0)) BK269.out hg (Kd.R_ne HO297.out BK269.out (by decide)))
       replace HO290 := Aside0.mk (Kd.R_after (ok := (fun k_ => some k_ ≠ (.slice (some ad298) t266.length co10 : Value).ownBlock ∧ some k_ ≠ (.slice Ao98 y299.length co98 : Value).ownBlock)) (by (with_reducible repeat (first | apply rA3 | apply rN3 | apply rD3)); exact Kd.R_mono HO290.out (fun _ hk => by first | exact ⟨⟨hk.2.2, hk.2.1⟩, hk.1⟩ | trivial | simp_all)) hg hat)
       replace HO301 := Aside0.mk (Kd.R_after (ok := (fun k_ => some k_ ≠ (.slice (some ad298) t266.length co10 : Value).ownBlock ∧ some k_ ≠ (.slice Ao88 y288.length co88 : Value).ownBlock)) (by (with_reducible repeat (first | apply rA3 | apply rN3 | apply rD3)); exact Kd.R_mono HO301.out (fun _ hk => by first | exact ⟨⟨hk.2.2, hk.1⟩, hk.2.1⟩ | trivial | simp_all)) hg hat)
       replace HB := Aside0.mk (hb)
       have HO304 := Aside0.mk (ho)
       clear HO297 ho hb hg hat
       obtain ⟨Ao99, co99, eo99⟩ := Kd.R_slice HO304.out
       (first | subst eo99 | (injection eo99 with f1_ f2_ f3_; have f4_ := f1_.symm; have f5_ := f3_.symm; clear f1_ f2_ f3_; subst f4_; subst f5_))
       refine hK.out _ _ ⟨ct_ BK269.out 0, ct_ BK269.out 1, HS2_, HS3_, HS4_, HS5_, HS6_, HS7_, HS8_, HS9_, HS10_, HS11_, HS12_, HS13_, HS14_, HS15_, HS16_, HS17_, HS18_, HS19_, HS20_⟩ (fun hHeld => ?_)
       clear hK K
       refine nm1_ (some 63) ?_
       refine one_ (i := 15) (N := some 64) z3_30 rfl rfl (one_of HT_.out (by kernel_rfl)) (by decide) (fun K hK => ?_)
       refine go_ Try.func5 #[.agg #[.int .i64 t262, .slice (some ad307) t263.length co9], .slice Ao99 y302.length co99] ?_
       with_reducible refine (impl_TurnsOk.calls k2 t262 _ _ t263 _ _ y302 false _ ?side1 ?side2 ?side3 ?side4 A34.out).mono ?_
       (case side1 => exact nc_ (rR3 HO_270001.out).2.2)
       (case side2 => exact (rR3 HO_270001.out).2.1)
       (case side3 => exact nc_ (rR3 HO304.out).2.2)
       (case side4 => exact (rR3 HO304.out).2.1)
       rintro e w100 ⟨rfl, hb⟩
       have HS2_ := (hb.cell (World.block_lt_of_cell? _ _ (hHeld.2.2.1))).trans (hHeld.2.2.1)
       have HS3_ := (hb.cell (World.block_lt_of_cell? _ _ (hHeld.2.2.2.1))).trans (hHeld.2.2.2.1)
       have HS4_ := (hb.cell (World.block_lt_of_cell? _ _ (hHeld.2.2.2.2.1))).trans (hHeld.2.2.2.2.1)
       have HS5_ := (hb.cell (World.block_lt_of_cell? _ _ (hHeld.2.2.2.2.2.1))).trans (hHeld.2.2.2.2.2.1)
       have HS6_ := (hb.cell (World.block_lt_of_cell? _ _ (hHeld.2.2.2.2.2.2.1))).trans (hHeld.2.2.2.2.2.2.1)
       have HS7_ := (hb.cell (World.block_lt_of_cell? _ _ (hHeld.2.2.2.2.2.2.2.1))).trans (hHeld.2.2.2.2.2.2.2.1)
       have HS8_ := (hb.cell (World.block_lt_of_cell? _ _ (hHeld.2.2.2.2.2.2.2.2.1))).trans (hHeld.2.2.2.2.2.2.2.2.1)
       have HS9_ := (hb.cell (World.block_lt_of_cell? _ _ (hHeld.2.2.2.2.2.2.2.2.2.1))).trans (hHeld.2.2.2.2.2.2.2.2.2.1)
       have HS10_ := (hb.cell (World.block_lt_of_cell? _ _ (hHeld.2.2.2.2.2.2.2.2.2.2.1))).trans (hHeld.2.2.2.2.2.2.2.2.2.2.1)
       have HS11_ := (hb.cell (World.block_lt_of_cell? _ _ (hHeld.2.2.2.2.2.2.2.2.2.2.2.1))).trans (hHeld.2.2.2.2.2.2.2.2.2.2.2.1)
       have HS12_ := (hb.cell (World.block_lt_of_cell? _ _ (hHeld.2.2.2.2.2.2.2.2.2.2.2.2.1))).trans (hHeld.2.2.2.2.2.2.2.2.2.2.2.2.1)
       have HS13_ := (hb.cell (World.block_lt_of_cell? _ _ (hHeld.2.2.2.2.2.2.2.2.2.2.2.2.2.1))).trans (hHeld.2.2.2.2.2.2.2.2.2.2.2.2.2.1)
       have HS14_ := (hb.cell (World.block_lt_of_cell? _ _ (hHeld.2.2.2.2.2.2.2.2.2.2.2.2.2.2.1))).trans (hHeld.2.2.2.2.2.2.2.2.2.2.2.2.2.2.1)
       have HS15_ := (hb.cell (World.block_lt_of_cell? _ _ (hHeld.2.2.2.2.2.2.2.2.2.2.2.2.2.2.2.1))).trans (hHeld.2.2.2.2.2.2.2.2.2.2.2.2.2.2.2.1)
       have HS16_ := (hb.cell (World.block_lt_of_cell? _ _ (hHeld.2.2.2.2.2.2.2.2.2.2.2.2.2.2.2.2.1))).trans (hHeld.2.2.2.2.2.2.2.2.2.2.2.2.2.2.2.2.1)
       have HS17_ := (hb.cell (World.block_lt_of_cell? _ _ (hHeld.2.2.2.2.2.2.2.2.2.2.2.2.2.2.2.2.2.1))).trans (hHeld.2.2.2.2.2.2.2.2.2.2.2.2.2.2.2.2.2.1)
       have HS18_ := (hb.cell (World.block_lt_of_cell? _ _ (hHeld.2.2.2.2.2.2.2.2.2.2.2.2.2.2.2.2.2.2.1))).trans (hHeld.2.2.2.2.2.2.2.2.2.2.2.2.2.2.2.2.2.2.1)
       have HS19_ := (hb.cell (World.block_lt_of_cell? _ _ (hHeld.2.2.2.2.2.2.2.2.2.2.2.2.2.2.2.2.2.2.2.1))).trans (hHeld.2.2.2.2.2.2.2.2.2.2.2.2.2.2.2.2.2.2.2.1)
       have HS20_ := (hb.cell (World.block_lt_of_cell? _ _ (hHeld.2.2.2.2.2.2.2.2.2.2.2.2.2.2.2.2.2.2.2.2))).trans (hHeld.2.2.2.2.2.2.2.2.2.2.2.2.2.2.2.2.2.2.2.2)
       refine ⟨_, rfl, ?_⟩
       replace HO_4 := Aside0.mk (rB3 HO_4.out hb)
       replace HO_270001 := Aside0.mk (rB3 HO_270001.out hb)
       replace HO290 := Aside0.mk (rB3 HO290.out hb)
       replace HO301 := Aside0.mk (rB3 HO301.out hb)
       replace HO304 := Aside0.mk (rB3 HO304.out hb)
       replace BK269 := kb_ BK269 hb
       replace HB := Aside0.mk (below_step HB.out hb)
       (try clear hb)
       (try clear hb2)
       (try clear hk)
       (try clear hi)
       refine hK.out _ _ ⟨ct_ BK269.out 0, ct_ BK269.out 1, HS2_, HS3_, HS4_, HS5_, HS6_, HS7_, HS8_, HS9_, HS10_, HS11_, HS12_, HS13_, HS14_, HS15_, HS16_, HS17_, HS18_, HS19_, HS20_⟩ (fun hHeld => ?_)
       clear hK K
       refine nm1_ (some 64) ?_
       refine pu_ 16 65 z3_31 HT_.out ?_
       refine pu_ 17 66 z3_32 HT_.out ?_
       refine pu_ 18 67 z3_33 HT_.out ?_
       refine pu_ 20 69 z3_55 HT_.out ?_
       refine pu_ 21 70 z3_56 HT_.out ?_
       refine pu_ 22 71 z3_57 HT_.out ?_
       refine pu_ 23 72 z3_58 HT_.out ?_
       refine pu_ 28 77 z3_59 HT_.out ?_
       refine pu_ 30 79 z3_60 HT_.out ?_
       refine pu_ 31 80 z3_61 HT_.out ?_
       refine pu_ 32 81 z3_62 HT_.out ?_
       refine pu_ 33 82 z3_63 HT_.out ?_
       refine tk_ 19 68 z3_64 HT_.out HW_.out hHeld ?_
       refine tk_ 24 73 z3_65 HT_.out HW_.out hHeld ?_
       refine pu_ 25 74 z3_66 HT_.out ?_
       refine pu_ 26 75 z3_67 HT_.out ?_
       refine tk_ 27 76 z3_68 HT_.out HW_.out hHeld ?_
       refine tk_ 29 78 z3_48 HT_.out HW_.out hHeld ?_
       refine tk_ 34 83 z3_49 HT_.out HW_.out hHeld ?_
       refine pu_ 35 84 z3_50 HT_.out ?_
       refine pu_ 36 85 z3_51 HT_.out ?_
       refine tk_ 37 86 z3_52 HT_.out HW_.out hHeld ?_
       refine pu_ 38 87 z3_53 HT_.out ?_
       refine pu_ 39 88 z3_54 HT_.out ?_
       refine done_ (done_of HT_.out (by kernel_rfl)) ?_
       try go_wp2
       all_goals go_ret
       all_goals exact ⟨by first | rfl | (simp [errW_none, errW_some] <;> rfl) | (simp only [← hji26]; first | rfl | (simp [errW_none, errW_some] <;> rfl)) | (simp [*, errW_none, errW_some] <;> rfl), ne_ HB.out⟩
      rw [if_pos c60] at H
      have c60b0 : (((rd_T33 t263 ((rd_T31 t266 x6_2).f0)).f1) == ((rd_T33 t263 ((rd_T31 t266 x6_2).f1)).f0)) = true := beq_iff_eq.mpr c60
      have c60b1 : (((rd_T33 t263 ((rd_T31 t266 x6_2).f0)).f1) != ((rd_T33 t263 ((rd_T31 t266 x6_2).f1)).f0)) = false := bne_eq_false_iff_eq.mpr c60
      clear c60
      have H' := Aside0.mk H
      clear H
      try go_wp2
      replace HO_4 := Aside0.mk (rD3 HO_4.out)
      replace HO_270001 := Aside0.mk (rD3 HO_270001.out)
      replace BK269 := Aside0.mk (blk_drew BK269.out)
      replace HB := Aside0.mk (below_drew1 HB.out)
      have q62 : (x6_2 : Int) ≤ ((t266.length : Int) : Int) := of_decide_eq_true nx_
      obtain ⟨i062, hi062, _, hsz62, _⟩ := info_parts info31
      have hroom62 : t266.length ≤ co10 := (rR3 HO_4.out).2.1
      have hC62 : Kd.C k31 _ Ao10 t266.length t266 := (rR3 HO_4.out).2.2
      have hcut62 := cut_to (P := Try.prog) 26 31 .i64 Try.underlying26 hi062 Ao10 t266.length co10 x6_2 (of_decide_eq_true nx_) q62 hroom62
      have hr62 := Kd.C_take (m := (x6_2 : Int).toNat) hC62 (by omega)
      have hy62 : y277.length = (x6_2 : Int).toNat := (by rw [Ny277.out, List.length_take]; omega)
      rw [← Ny277.out] at hr62
      rw [← hy62] at hcut62
      have HR280 := Aside0.mk hr62
      have HC280 := Aside0.mk (show y277.length ≤ co10 from by omega)
      clear hr62 hC62 hroom62 hi062 hsz62
      have KY62 := Aside0.mk hy62
      clear hy62
      have KL62 := Aside0.mk (show (x6_2 : Int).toNat ≤ t266.length from by omega)
      replace q62 := eq_true q62
      have q63 : ((ji26) : Int) ≤ ((t266.length : Int) : Int) := of_decide_eq_true nx_
      obtain ⟨i063, hi063, _, hsz63, _⟩ := info_parts info31
      have hroom63 : t266.length ≤ co10 := (rR3 HO_4.out).2.1
      have hC63 : Kd.C k31 _ Ao10 t266.length t266 := (rR3 HO_4.out).2.2
      have q063 : (0 : Int) ≤ ((ji26) : Int) := of_decide_eq_true nx_
      have hcut63 := cut_from (P := Try.prog) 26 31 .i64 Try.underlying26 hi063 3 hsz63 Ao10 t266.length co10 (ji26) q063 q63
      have hr63 := Kd.C_drop (m := ((ji26) : Int).toNat) (c := co10) hC63 (by omega) hroom63
      obtain ⟨A63, hA63⟩ : ∃ A1, A1 = (if co10 = ((ji26) : Int).toNat then Ao10 else (Ao10 : Option Addr).map (·.add (((ji26) : Int).toNat * 3))) := ⟨_, rfl⟩
      obtain ⟨c63, hc63⟩ : ∃ c1, c1 = co10 - ((ji26) : Int).toNat := ⟨_, rfl⟩
      have hy63 : y284.length = t266.length - ((ji26) : Int).toNat := (by rw [Ny284.out, List.length_drop] <;> omega)
      rw [show (t266).drop ((ji26) : Int).toNat = y284 from Ny284.out.symm] at hr63
      replace hr63 : Kd.C k31 _ A63 y284.length y284 := (by rw [hA63]; exact hr63)
      rw [← hy63, ← hA63, ← hc63] at hcut63
      have HR287 := Aside0.mk hr63
      have HC287 := Aside0.mk (show y284.length ≤ c63 from by rw [hy63, hc63]; exact Nat.sub_le_sub_right hroom63 _)
      clear hr63 hC63 hroom63 hi063 hsz63
      have KC63 := Aside0.mk hc63
      clear hc63
      have KY63 := Aside0.mk hy63
      have KA63 := Aside0.mk hA63
      clear hy63 hA63
      have KL63 := Aside0.mk (show ((ji26) : Int).toNat ≤ t266.length from by omega)
      replace q63 := eq_true q63
      refine start_ (n := 11) (S := fun w' => True) (ds := []) z3_0 (by kernel_rfl) rfl rfl trivial (fun hHeld => ?_); refine with_tabW laws_FnTurnsOk.tab10 laws_FnTurnsOk.bits10 (fun HT_ HW_ => ?_)
      generalize wr.drew = w61 at HO_4 HO_270001 BK269 HB HR280 HR287 hHeld ⊢
      refine pu_ 1 40 z3_1 HT_.out ?_
      refine pu_ 2 41 z3_2 HT_.out ?_
      refine pu_ 3 42 z3_3 HT_.out ?_
      refine pu_ 5 44 z3_4 HT_.out ?_
      refine pu_ 6 45 z3_5 HT_.out ?_
      refine pu_ 7 46 z3_6 HT_.out ?_
      refine pu_ 8 47 z3_7 HT_.out ?_
      refine one_ (i := 0) (N := some 39) z3_8 rfl rfl (one_of HT_.out (by kernel_rfl)) (by decide) (fun K hK => ?_)
      refine Kd.R_lit_step k31 _ 31 ?hg (N := 39) ?hd (xs := ([] : List (S31))) (inner := []) (ok := fun _ => True) (okp := fun _ => True) ?hr ?hp (fun _ hk => hk) trivial (Below.refl _ _) (Nat.le_refl _) (by simp) ?_; (case hd => rfl); (case hg => rfl); (case hr => first | (go_simp; done) | (go_simp; rfl)); (case hp => exact (Reps.none _ _))
      intro v275 w64 ho65 hb hg_ hnew_
      clear hg_ hnew_
      (first | rw [← Ny274.out] at ho65 | (simp only [Int.reduceToNat] at ho65; rw [← Ny274.out] at ho65))
      replace HO_270001 := Aside0.mk (rB3 HO_270001.out hb)
      have HO276 := Aside0.mk (Kd.R_lower (Kd.R_new' ho65 (Kd.R_lt HO_4.out)) (eZ3 HB.out))
      replace HO_4 := Aside0.mk (Kd.R_elder' HO_4.out (Kd.R_base ho65) hb)
      replace BK269 := kb_ BK269 hb
      replace HR280 := Aside0.mk (Kd.C_below (by repeat (first | (with_reducible exact HR280.out) | (with_reducible refine cA3 ?_ _) | (with_reducible refine cN3 ?_ _) | (with_reducible refine cD3 ?_) | exact HR280.out)) hb)
      replace HR287 := Aside0.mk (Kd.C_below (by repeat (first | (with_reducible exact HR287.out) | (with_reducible refine cA3 ?_ _) | (with_reducible refine cN3 ?_ _) | (with_reducible refine cD3 ?_) | exact HR287.out)) hb)
      replace HB := Aside0.mk (below_step HB.out hb)
      clear hb ho65
      refine hK.out _ _ trivial (fun hHeld => ?_)
      clear hK K
      refine nm1_ (some 39) ?_
      refine one_ (i := 4) (N := some 43) z3_9 rfl rfl (one_of HT_.out (by kernel_rfl)) (by decide) (fun K hK => ?_)
      refine Kd.R_append_rows_step k31 (w0 := w) w.heap.size (by rfl) (.tmp 39) (.tmp 42) 26 31 (.agg #[(.int .i64 0), (.int .i64 0), (.int .i64 0)]) 24 rfl Try.underlying26 info31 rfl (by decide) (by omega) v275 y274 y277 _ _ _ (fun k_ => some k_ ≠ (.slice Ao10 t266.length co10 : Value).ownBlock) (fun _ => False) rfl rfl ?aO ?aR (fun _ _ h => h) (fun _ h => h.elim) ?aF ?aB ?aS ?aL ?_
      (case aR => repeat (first | exact (by repeat (first | (with_reducible exact HR280.out) | (with_reducible refine cA3 ?_ _) | (with_reducible refine cN3 ?_ _) | (with_reducible refine cD3 ?_) | exact HR280.out)) | (with_reducible refine cA3 ?_ _) | (with_reducible refine cN3 ?_ _) | (with_reducible refine cD3 ?_)))
      (case aB => exact HB.out)
      (case aF => exact (fun k_ hk => Kd.fresh' (Kd.R_lt HO_4.out) k_ hk))
      (case aO => exact (by (with_reducible repeat (first | apply rA3 | apply rN3 | apply rD3)); exact Kd.R_mono HO276.out (fun _ hk => by first | exact hk.2 | trivial | simp_all)))
      (case aS => exact (eZ3 HB.out))
      (case aL => have := LMc25.out; omega)
      intro v282 w66 ho hb hg hat
      rw [← Ny281.out] at ho
      replace HO_270001 := Aside0.mk (Kd.R_over' HO_270001.out (Kd.R_typed HO276.out) (by decide) hg)
      replace BK269 := Aside0.mk (blk_grown (g := gb269) (o := .cells #[.int .i64 t262, .slice Ao9 t263.length co9] 25 (0, 0)) BK269.out hg (Kd.R_ne HO276.out BK269.out (by decide)))
      replace HB := Aside0.mk (hb)
      replace HR280 := Aside0.mk ((show Kd.C k31 w66 Ao10 y277.length y277 from by rw [Ny277.out]; exact Kd.C_take (m := (x6_2 : Int).toNat) ((rR3 (Kd.R_after (ok := (fun _ => True)) HO_4.out hg hat)).2.2) KL62.out))
      replace HR287 := Aside0.mk ((show Kd.C k31 w66 A63 y284.length y284 from by rw [Ny284.out, KA63.out]; exact Kd.C_drop (m := ((ji26) : Int).toNat) (c := co10) ((rR3 (Kd.R_after (ok := (fun _ => True)) HO_4.out hg hat)).2.2) KL63.out ((rR3 (Kd.R_after (ok := (fun _ => True)) HO_4.out hg hat)).2.1)))
      replace HO_4 := Aside0.mk (Kd.R_after (ok := (fun _ => True)) HO_4.out hg hat)
      have HO283 := Aside0.mk (ho)
      clear HO276 ho hb hg hat
      refine hK.out _ _ trivial (fun hHeld => ?_)
      clear hK K
      refine nm1_ (some 43) ?_
      refine one_ (i := 9) (N := some 48) z3_10 rfl rfl (one_of HT_.out (by kernel_rfl)) (by decide) (fun K hK => ?_)
      refine Kd.R_append_rows_step k31 (w0 := w) w.heap.size (by rfl) (.tmp 43) (.tmp 47) 26 31 (.agg #[(.int .i64 0), (.int .i64 0), (.int .i64 0)]) 24 rfl Try.underlying26 info31 rfl (by decide) (by omega) v282 y281 y284 _ _ _ (fun k_ => some k_ ≠ (.slice Ao10 t266.length co10 : Value).ownBlock) (fun _ => False) rfl rfl ?aO ?aR (fun _ _ h => h) (fun _ h => h.elim) ?aF ?aB ?aS ?aL ?_
      (case aR => repeat (first | exact (by repeat (first | (with_reducible exact HR287.out) | (with_reducible refine cA3 ?_ _) | (with_reducible refine cN3 ?_ _) | (with_reducible refine cD3 ?_) | exact HR287.out)) | (with_reducible refine cA3 ?_ _) | (with_reducible refine cN3 ?_ _) | (with_reducible refine cD3 ?_)))
      (case aB => exact HB.out)
      (case aF => exact (fun k_ hk => Kd.fresh' (Kd.R_lt HO_4.out) k_ hk))
      (case aO => exact HO283.out)
      (case aS => exact (eZ3 HB.out))
      (case aL => have := LMc29.out; omega)
      intro v289 w67 ho hb hg hat
      rw [← Ny288.out] at ho
      replace HO_270001 := Aside0.mk (Kd.R_over' HO_270001.out (Kd.R_typed HO283.out) (by decide) hg)
      replace BK269 := Aside0.mk (blk_grown (g := gb269) (o := .cells #[.int .i64 t262, .slice Ao9 t263.length co9] 25 (0, 0)) BK269.out hg (Kd.R_ne HO283.out BK269.out (by decide)))
      replace HB := Aside0.mk (hb)
      replace HR280 := Aside0.mk ((show Kd.C k31 w67 Ao10 y277.length y277 from by rw [Ny277.out]; exact Kd.C_take (m := (x6_2 : Int).toNat) ((rR3 (Kd.R_after (ok := (fun _ => True)) HO_4.out hg hat)).2.2) KL62.out))
      replace HR287 := Aside0.mk ((show Kd.C k31 w67 A63 y284.length y284 from by rw [Ny284.out, KA63.out]; exact Kd.C_drop (m := ((ji26) : Int).toNat) (c := co10) ((rR3 (Kd.R_after (ok := (fun _ => True)) HO_4.out hg hat)).2.2) KL63.out ((rR3 (Kd.R_after (ok := (fun _ => True)) HO_4.out hg hat)).2.1)))
      replace HO_4 := Aside0.mk (Kd.R_after (ok := (fun _ => True)) HO_4.out hg hat)
      have HO290 := Aside0.mk (ho)
      clear HO283 ho hb hg hat
      refine hK.out _ _ trivial (fun hHeld => ?_)
      clear hK K
      refine nm1_ (some 48) ?_
      refine pu_ 10 7 z3_11 HT_.out ?_
      refine done_ (done_of HT_.out (by kernel_rfl)) ?_
      obtain ⟨Ao68, co68, eo68⟩ := Kd.R_slice HO290.out
      subst eo68
      try go_wp2
      replace HO_4 := Aside0.mk (rD3 HO_4.out)
      replace HO_270001 := Aside0.mk (rD3 HO_270001.out)
      replace HO290 := Aside0.mk (rD3 HO290.out)
      replace BK269 := Aside0.mk (blk_drew BK269.out)
      replace HR280 := Aside0.mk (cD3 HR280.out)
      replace HR287 := Aside0.mk (cD3 HR287.out)
      replace HB := Aside0.mk (below_drew1 HB.out)
      have p298 : 0 ≤ (x6_2 : Int) := of_decide_eq_true nx_
      have q298 : x6_2 < (t266.length : Int) := of_decide_eq_true nx_
      obtain ⟨ad298, e298, hx298_0, hx298_1, hx298_2⟩ := at_T31 (rR3 HO_4.out).2.2 x6_2 p298 q298
      cases e298
      replace p298 := eq_true p298
      replace q298 := eq_true q298
      have p306 : 0 ≤ (x6_2 : Int) := of_decide_eq_true nx_
      have q306 : x6_2 < (t266.length : Int) := of_decide_eq_true nx_
      obtain ⟨ad306, e306, hx306_0, hx306_1, hx306_2⟩ := at_T31 (rR3 HO_4.out).2.2 x6_2 p306 q306
      obtain rfl : ad298 = ad306 := (by injection e306)
      replace p306 := eq_true p306
      replace q306 := eq_true q306
      have p307 : 0 ≤ (((rd_T31 t266 x6_2).f0) : Int) := of_decide_eq_true nx_
      have q307 : ((rd_T31 t266 x6_2).f0) < (t263.length : Int) := of_decide_eq_true nx_
      obtain ⟨ad307, e307, hx307_0, hx307_1, hx307_2, hx307_3, hx307_4⟩ := at_T33 (rR3 HO_270001.out).2.2 ((rd_T31 t266 x6_2).f0) p307 q307
      cases e307
      replace p307 := eq_true p307
      replace q307 := eq_true q307
      have p308 : 0 ≤ (x6_2 : Int) := of_decide_eq_true nx_
      have q308 : x6_2 < (t266.length : Int) := of_decide_eq_true nx_
      obtain ⟨ad308, e308, hx308_0, hx308_1, hx308_2⟩ := at_T31 (rR3 HO_4.out).2.2 x6_2 p308 q308
      obtain rfl : ad298 = ad308 := (by injection e308)
      replace p308 := eq_true p308
      replace q308 := eq_true q308
      have p309 : 0 ≤ (((rd_T31 t266 x6_2).f1) : Int) := of_decide_eq_true nx_
      have q309 : ((rd_T31 t266 x6_2).f1) < (t263.length : Int) := of_decide_eq_true nx_
      obtain ⟨ad309, e309, hx309_0, hx309_1, hx309_2, hx309_3, hx309_4⟩ := at_T33 (rR3 HO_270001.out).2.2 ((rd_T31 t266 x6_2).f1) p309 q309
      obtain rfl : ad307 = ad309 := (by injection e309)
      replace p309 := eq_true p309
      replace q309 := eq_true q309
      refine start_ (n := 40) (S := fun w' => w'.cell? ⟨gb269, 0, none⟩ = some (.int .i64 t262) ∧ w'.cell? ⟨gb269, 1, none⟩ = some (.slice (some ad307) t263.length co9) ∧ w'.cell? (ad298.add ((x6_2).toNat * 3)) = some (.int .i64 ((rd_T31 t266 x6_2).f0)) ∧ w'.cell? ⟨(ad298.add ((x6_2).toNat * 3)).block, (ad298.add ((x6_2).toNat * 3)).off + 1, none⟩ = some (.int .i64 ((rd_T31 t266 x6_2).f1)) ∧ w'.cell? ⟨(ad298.add ((x6_2).toNat * 3)).block, (ad298.add ((x6_2).toNat * 3)).off + 2, none⟩ = some (.int .i64 ((rd_T31 t266 x6_2).f2)) ∧ w'.cell? (ad298.add ((x6_2).toNat * 3)) = some (.int .i64 ((rd_T31 t266 x6_2).f0)) ∧ w'.cell? ⟨(ad298.add ((x6_2).toNat * 3)).block, (ad298.add ((x6_2).toNat * 3)).off + 1, none⟩ = some (.int .i64 ((rd_T31 t266 x6_2).f1)) ∧ w'.cell? ⟨(ad298.add ((x6_2).toNat * 3)).block, (ad298.add ((x6_2).toNat * 3)).off + 2, none⟩ = some (.int .i64 ((rd_T31 t266 x6_2).f2)) ∧ w'.cell? (ad307.add ((((rd_T31 t266 x6_2).f0)).toNat * 5)) = some (.int .i64 ((rd_T33 t263 ((rd_T31 t266 x6_2).f0)).f0)) ∧ w'.cell? ⟨(ad307.add ((((rd_T31 t266 x6_2).f0)).toNat * 5)).block, (ad307.add ((((rd_T31 t266 x6_2).f0)).toNat * 5)).off + 1, none⟩ = some (.int .i64 ((rd_T33 t263 ((rd_T31 t266 x6_2).f0)).f1)) ∧ w'.cell? ⟨(ad307.add ((((rd_T31 t266 x6_2).f0)).toNat * 5)).block, (ad307.add ((((rd_T31 t266 x6_2).f0)).toNat * 5)).off + 2, none⟩ = some (.int .i64 ((rd_T33 t263 ((rd_T31 t266 x6_2).f0)).f2)) ∧ w'.cell? ⟨(ad307.add ((((rd_T31 t266 x6_2).f0)).toNat * 5)).block, (ad307.add ((((rd_T31 t266 x6_2).f0)).toNat * 5)).off + 3, none⟩ = some (.int .i64 ((rd_T33 t263 ((rd_T31 t266 x6_2).f0)).f3)) ∧ w'.cell? ⟨(ad307.add ((((rd_T31 t266 x6_2).f0)).toNat * 5)).block, (ad307.add ((((rd_T31 t266 x6_2).f0)).toNat * 5)).off + 4, none⟩ = some (.int .i64 ((rd_T33 t263 ((rd_T31 t266 x6_2).f0)).f4)) ∧ w'.cell? (ad298.add ((x6_2).toNat * 3)) = some (.int .i64 ((rd_T31 t266 x6_2).f0)) ∧ w'.cell? ⟨(ad298.add ((x6_2).toNat * 3)).block, (ad298.add ((x6_2).toNat * 3)).off + 1, none⟩ = some (.int .i64 ((rd_T31 t266 x6_2).f1)) ∧ w'.cell? ⟨(ad298.add ((x6_2).toNat * 3)).block, (ad298.add ((x6_2).toNat * 3)).off + 2, none⟩ = some (.int .i64 ((rd_T31 t266 x6_2).f2)) ∧ w'.cell? (ad307.add ((((rd_T31 t266 x6_2).f1)).toNat * 5)) = some (.int .i64 ((rd_T33 t263 ((rd_T31 t266 x6_2).f1)).f0)) ∧ w'.cell? ⟨(ad307.add ((((rd_T31 t266 x6_2).f1)).toNat * 5)).block, (ad307.add ((((rd_T31 t266 x6_2).f1)).toNat * 5)).off + 1, none⟩ = some (.int .i64 ((rd_T33 t263 ((rd_T31 t266 x6_2).f1)).f1)) ∧ w'.cell? ⟨(ad307.add ((((rd_T31 t266 x6_2).f1)).toNat * 5)).block, (ad307.add ((((rd_T31 t266 x6_2).f1)).toNat * 5)).off + 2, none⟩ = some (.int .i64 ((rd_T33 t263 ((rd_T31 t266 x6_2).f1)).f2)) ∧ w'.cell? ⟨(ad307.add ((((rd_T31 t266 x6_2).f1)).toNat * 5)).block, (ad307.add ((((rd_T31 t266 x6_2).f1)).toNat * 5)).off + 3, none⟩ = some (.int .i64 ((rd_T33 t263 ((rd_T31 t266 x6_2).f1)).f3)) ∧ w'.cell? ⟨(ad307.add ((((rd_T31 t266 x6_2).f1)).toNat * 5)).block, (ad307.add ((((rd_T31 t266 x6_2).f1)).toNat * 5)).off + 4, none⟩ = some (.int .i64 ((rd_T33 t263 ((rd_T31 t266 x6_2).f1)).f4))) (ds := []) z3_12 (by kernel_rfl) rfl rfl ⟨ct_ BK269.out 0, ct_ BK269.out 1, hx298_0, hx298_1, hx298_2, hx306_0, hx306_1, hx306_2, hx307_0, hx307_1, hx307_2, hx307_3, hx307_4, hx308_0, hx308_1, hx308_2, hx309_0, hx309_1, hx309_2, hx309_3, hx309_4⟩ (fun hHeld => ?_); refine with_tabW laws_FnTurnsOk.tab11 laws_FnTurnsOk.bits11 (fun HT_ HW_ => ?_)
      generalize w67.drew = w69 at HO_4 HO_270001 HO290 BK269 HR280 HR287 HB hx298_0 hx298_1 hx298_2 hx306_0 hx306_1 hx306_2 hx307_0 hx307_1 hx307_2 hx307_3 hx307_4 hx308_0 hx308_1 hx308_2 hx309_0 hx309_1 hx309_2 hx309_3 hx309_4 hHeld ⊢
      refine pu_ 1 50 z3_13 HT_.out ?_
      refine tk_ 0 49 z3_14 HT_.out HW_.out hHeld ?_
      refine one_ (i := 2) (N := some 51) z3_15 rfl rfl (one_of HT_.out (by kernel_rfl)) (by decide) (fun K hK => ?_)
      refine go_ Try.func5 #[.agg #[.int .i64 t262, .slice (some ad307) t263.length co9], .slice Ao68 y288.length co68] ?_
      with_reducible refine (impl_TurnsOk.calls k2 t262 _ _ t263 _ _ y288 true _ ?side1 ?side2 ?side3 ?side4 A30.out).mono ?_
      (case side1 => exact nc_ (rR3 HO_270001.out).2.2)
      (case side2 => exact (rR3 HO_270001.out).2.1)
      (case side3 => exact nc_ (rR3 HO290.out).2.2)
      (case side4 => exact (rR3 HO290.out).2.1)
      rintro e w70 ⟨rfl, hb⟩
      have HS2_ := (hb.cell (World.block_lt_of_cell? _ _ (hHeld.2.2.1))).trans (hHeld.2.2.1)
      have HS3_ := (hb.cell (World.block_lt_of_cell? _ _ (hHeld.2.2.2.1))).trans (hHeld.2.2.2.1)
      have HS4_ := (hb.cell (World.block_lt_of_cell? _ _ (hHeld.2.2.2.2.1))).trans (hHeld.2.2.2.2.1)
      have HS5_ := (hb.cell (World.block_lt_of_cell? _ _ (hHeld.2.2.2.2.2.1))).trans (hHeld.2.2.2.2.2.1)
      have HS6_ := (hb.cell (World.block_lt_of_cell? _ _ (hHeld.2.2.2.2.2.2.1))).trans (hHeld.2.2.2.2.2.2.1)
      have HS7_ := (hb.cell (World.block_lt_of_cell? _ _ (hHeld.2.2.2.2.2.2.2.1))).trans (hHeld.2.2.2.2.2.2.2.1)
      have HS8_ := (hb.cell (World.block_lt_of_cell? _ _ (hHeld.2.2.2.2.2.2.2.2.1))).trans (hHeld.2.2.2.2.2.2.2.2.1)
      have HS9_ := (hb.cell (World.block_lt_of_cell? _ _ (hHeld.2.2.2.2.2.2.2.2.2.1))).trans (hHeld.2.2.2.2.2.2.2.2.2.1)
      have HS10_ := (hb.cell (World.block_lt_of_cell? _ _ (hHeld.2.2.2.2.2.2.2.2.2.2.1))).trans (hHeld.2.2.2.2.2.2.2.2.2.2.1)
      have HS11_ := (hb.cell (World.block_lt_of_cell? _ _ (hHeld.2.2.2.2.2.2.2.2.2.2.2.1))).trans (hHeld.2.2.2.2.2.2.2.2.2.2.2.1)
      have HS12_ := (hb.cell (World.block_lt_of_cell? _ _ (hHeld.2.2.2.2.2.2.2.2.2.2.2.2.1))).trans (hHeld.2.2.2.2.2.2.2.2.2.2.2.2.1)
      have HS13_ := (hb.cell (World.block_lt_of_cell? _ _ (hHeld.2.2.2.2.2.2.2.2.2.2.2.2.2.1))).trans (hHeld.2.2.2.2.2.2.2.2.2.2.2.2.2.1)
      have HS14_ := (hb.cell (World.block_lt_of_cell? _ _ (hHeld.2.2.2.2.2.2.2.2.2.2.2.2.2.2.1))).trans (hHeld.2.2.2.2.2.2.2.2.2.2.2.2.2.2.1)
      have HS15_ := (hb.cell (World.block_lt_of_cell? _ _ (hHeld.2.2.2.2.2.2.2.2.2.2.2.2.2.2.2.1))).trans (hHeld.2.2.2.2.2.2.2.2.2.2.2.2.2.2.2.1)
      have HS16_ := (hb.cell (World.block_lt_of_cell? _ _ (hHeld.2.2.2.2.2.2.2.2.2.2.2.2.2.2.2.2.1))).trans (hHeld.2.2.2.2.2.2.2.2.2.2.2.2.2.2.2.2.1)
      have HS17_ := (hb.cell (World.block_lt_of_cell? _ _ (hHeld.2.2.2.2.2.2.2.2.2.2.2.2.2.2.2.2.2.1))).trans (hHeld.2.2.2.2.2.2.2.2.2.2.2.2.2.2.2.2.2.1)
      have HS18_ := (hb.cell (World.block_lt_of_cell? _ _ (hHeld.2.2.2.2.2.2.2.2.2.2.2.2.2.2.2.2.2.2.1))).trans (hHeld.2.2.2.2.2.2.2.2.2.2.2.2.2.2.2.2.2.2.1)
      have HS19_ := (hb.cell (World.block_lt_of_cell? _ _ (hHeld.2.2.2.2.2.2.2.2.2.2.2.2.2.2.2.2.2.2.2.1))).trans (hHeld.2.2.2.2.2.2.2.2.2.2.2.2.2.2.2.2.2.2.2.1)
      have HS20_ := (hb.cell (World.block_lt_of_cell? _ _ (hHeld.2.2.2.2.2.2.2.2.2.2.2.2.2.2.2.2.2.2.2.2))).trans (hHeld.2.2.2.2.2.2.2.2.2.2.2.2.2.2.2.2.2.2.2.2)
      refine ⟨_, rfl, ?_⟩
      replace HO_4 := Aside0.mk (rB3 HO_4.out hb)
      replace HO_270001 := Aside0.mk (rB3 HO_270001.out hb)
      replace HO290 := Aside0.mk (rB3 HO290.out hb)
      replace BK269 := kb_ BK269 hb
      replace HR280 := Aside0.mk (Kd.C_below (by repeat (first | (with_reducible exact HR280.out) | (with_reducible refine cA3 ?_ _) | (with_reducible refine cN3 ?_ _) | (with_reducible refine cD3 ?_) | exact HR280.out)) hb)
      replace HR287 := Aside0.mk (Kd.C_below (by repeat (first | (with_reducible exact HR287.out) | (with_reducible refine cA3 ?_ _) | (with_reducible refine cN3 ?_ _) | (with_reducible refine cD3 ?_) | exact HR287.out)) hb)
      replace HB := Aside0.mk (below_step HB.out hb)
      (try clear hb)
      (try clear hb2)
      (try clear hk)
      (try clear hi)
      refine hK.out _ _ ⟨ct_ BK269.out 0, ct_ BK269.out 1, HS2_, HS3_, HS4_, HS5_, HS6_, HS7_, HS8_, HS9_, HS10_, HS11_, HS12_, HS13_, HS14_, HS15_, HS16_, HS17_, HS18_, HS19_, HS20_⟩ (fun hHeld => ?_)
      clear hK K
      refine nm1_ (some 51) ?_
      refine pu_ 3 52 z3_16 HT_.out ?_
      refine pu_ 4 53 z3_17 HT_.out ?_
      refine pu_ 7 56 z3_18 HT_.out ?_
      refine pu_ 9 58 z3_19 HT_.out ?_
      refine pu_ 10 59 z3_20 HT_.out ?_
      refine pu_ 11 60 z3_21 HT_.out ?_
      refine tk_ 5 54 z3_22 HT_.out HW_.out hHeld ?_
      refine tk_ 12 61 z3_23 HT_.out HW_.out hHeld ?_
      refine join_ (σ := Value × Value × Value) 26 z3_24 (fun s_ => [(55, s_.1), (57, s_.2.1), (62, s_.2.2)]) (fun s_ w' => (w'.cell? ⟨gb269, 0, none⟩ = some (.int .i64 t262) ∧ w'.cell? ⟨gb269, 1, none⟩ = some (.slice (some ad307) t263.length co9) ∧ w'.cell? (ad298.add ((x6_2).toNat * 3)) = some (.int .i64 ((rd_T31 t266 x6_2).f0)) ∧ w'.cell? ⟨(ad298.add ((x6_2).toNat * 3)).block, (ad298.add ((x6_2).toNat * 3)).off + 1, none⟩ = some (.int .i64 ((rd_T31 t266 x6_2).f1)) ∧ w'.cell? ⟨(ad298.add ((x6_2).toNat * 3)).block, (ad298.add ((x6_2).toNat * 3)).off + 2, none⟩ = some (.int .i64 ((rd_T31 t266 x6_2).f2)) ∧ w'.cell? (ad298.add ((x6_2).toNat * 3)) = some (.int .i64 ((rd_T31 t266 x6_2).f0)) ∧ w'.cell? ⟨(ad298.add ((x6_2).toNat * 3)).block, (ad298.add ((x6_2).toNat * 3)).off + 1, none⟩ = some (.int .i64 ((rd_T31 t266 x6_2).f1)) ∧ w'.cell? ⟨(ad298.add ((x6_2).toNat * 3)).block, (ad298.add ((x6_2).toNat * 3)).off + 2, none⟩ = some (.int .i64 ((rd_T31 t266 x6_2).f2)) ∧ w'.cell? (ad307.add ((((rd_T31 t266 x6_2).f0)).toNat * 5)) = some (.int .i64 ((rd_T33 t263 ((rd_T31 t266 x6_2).f0)).f0)) ∧ w'.cell? ⟨(ad307.add ((((rd_T31 t266 x6_2).f0)).toNat * 5)).block, (ad307.add ((((rd_T31 t266 x6_2).f0)).toNat * 5)).off + 1, none⟩ = some (.int .i64 ((rd_T33 t263 ((rd_T31 t266 x6_2).f0)).f1)) ∧ w'.cell? ⟨(ad307.add ((((rd_T31 t266 x6_2).f0)).toNat * 5)).block, (ad307.add ((((rd_T31 t266 x6_2).f0)).toNat * 5)).off + 2, none⟩ = some (.int .i64 ((rd_T33 t263 ((rd_T31 t266 x6_2).f0)).f2)) ∧ w'.cell? ⟨(ad307.add ((((rd_T31 t266 x6_2).f0)).toNat * 5)).block, (ad307.add ((((rd_T31 t266 x6_2).f0)).toNat * 5)).off + 3, none⟩ = some (.int .i64 ((rd_T33 t263 ((rd_T31 t266 x6_2).f0)).f3)) ∧ w'.cell? ⟨(ad307.add ((((rd_T31 t266 x6_2).f0)).toNat * 5)).block, (ad307.add ((((rd_T31 t266 x6_2).f0)).toNat * 5)).off + 4, none⟩ = some (.int .i64 ((rd_T33 t263 ((rd_T31 t266 x6_2).f0)).f4)) ∧ w'.cell? (ad298.add ((x6_2).toNat * 3)) = some (.int .i64 ((rd_T31 t266 x6_2).f0)) ∧ w'.cell? ⟨(ad298.add ((x6_2).toNat * 3)).block, (ad298.add ((x6_2).toNat * 3)).off + 1, none⟩ = some (.int .i64 ((rd_T31 t266 x6_2).f1)) ∧ w'.cell? ⟨(ad298.add ((x6_2).toNat * 3)).block, (ad298.add ((x6_2).toNat * 3)).off + 2, none⟩ = some (.int .i64 ((rd_T31 t266 x6_2).f2)) ∧ w'.cell? (ad307.add ((((rd_T31 t266 x6_2).f1)).toNat * 5)) = some (.int .i64 ((rd_T33 t263 ((rd_T31 t266 x6_2).f1)).f0)) ∧ w'.cell? ⟨(ad307.add ((((rd_T31 t266 x6_2).f1)).toNat * 5)).block, (ad307.add ((((rd_T31 t266 x6_2).f1)).toNat * 5)).off + 1, none⟩ = some (.int .i64 ((rd_T33 t263 ((rd_T31 t266 x6_2).f1)).f1)) ∧ w'.cell? ⟨(ad307.add ((((rd_T31 t266 x6_2).f1)).toNat * 5)).block, (ad307.add ((((rd_T31 t266 x6_2).f1)).toNat * 5)).off + 2, none⟩ = some (.int .i64 ((rd_T33 t263 ((rd_T31 t266 x6_2).f1)).f2)) ∧ w'.cell? ⟨(ad307.add ((((rd_T31 t266 x6_2).f1)).toNat * 5)).block, (ad307.add ((((rd_T31 t266 x6_2).f1)).toNat * 5)).off + 3, none⟩ = some (.int .i64 ((rd_T33 t263 ((rd_T31 t266 x6_2).f1)).f3)) ∧ w'.cell? ⟨(ad307.add ((((rd_T31 t266 x6_2).f1)).toNat * 5)).block, (ad307.add ((((rd_T31 t266 x6_2).f1)).toNat * 5)).off + 4, none⟩ = some (.int .i64 ((rd_T33 t263 ((rd_T31 t266 x6_2).f1)).f4))) ∧ (Kd.R k31 31 w' w.heap.size (fun k_ => some k_ ≠ (s_.2.1 : Value).ownBlock ∧ some k_ ≠ (s_.2.2 : Value).ownBlock ∧ some k_ ≠ (.slice (some ad298) t266.length co10 : Value).ownBlock) (.slice Ao68 y288.length co68) y288) ∧ (Kd.R k31 31 w' w.heap.size (fun k_ => some k_ ≠ (.slice Ao68 y288.length co68 : Value).ownBlock ∧ some k_ ≠ (s_.2.2 : Value).ownBlock ∧ some k_ ≠ (.slice (some ad298) t266.length co10 : Value).ownBlock) s_.2.1 y295) ∧ (Kd.R k31 31 w' w.heap.size (fun k_ => some k_ ≠ (.slice Ao68 y288.length co68 : Value).ownBlock ∧ some k_ ≠ (s_.2.1 : Value).ownBlock ∧ some k_ ≠ (.slice (some ad298) t266.length co10 : Value).ownBlock) s_.2.2 y299) ∧ (Kd.R k33 33 w' w.heap.size (fun _ => True) (.slice (some ad307) t263.length co9) t263) ∧ (Kd.R k31 31 w' w.heap.size (fun k_ => some k_ ≠ (.slice Ao68 y288.length co68 : Value).ownBlock ∧ some k_ ≠ (s_.2.1 : Value).ownBlock ∧ some k_ ≠ (s_.2.2 : Value).ownBlock) (.slice (some ad298) t266.length co10) t266) ∧ (w'.heap[gb269]? = some (.cells #[.int .i64 t262, .slice (some ad307) t263.length co9] 25 (0, 0))) ∧ (Below w.heap.size w w')) ?_ ?_
      rotate_left
      ·intro hCont
       refine two_ (i := 6) (j := 13) (Ni := some 55) (Nj := some 62) z3_25 z3_26 rfl rfl rfl rfl (two_of HT_.out (by kernel_rfl)) (by decide) (by decide) (fun K hK => ?_) (fun K hK => ?_)
       ·skip
        refine Kd.R_lit_step k31 _ 31 ?hg (N := 55) ?hd (xs := ([] : List (S31))) (inner := []) (ok := fun _ => True) (okp := fun _ => True) ?hr ?hp (fun _ hk => hk) trivial (Below.refl _ _) (Nat.le_refl _) (by simp) ?_; (case hd => rfl); (case hg => rfl); (case hr => first | (go_simp; done) | (go_simp; rfl)); (case hp => exact (Reps.none _ _))
        intro v293 w71 ho72 hb hg_ hnew_
        have HS2_ := (hb.cell (World.block_lt_of_cell? _ _ (hHeld.2.2.1))).trans (hHeld.2.2.1)
        have HS3_ := (hb.cell (World.block_lt_of_cell? _ _ (hHeld.2.2.2.1))).trans (hHeld.2.2.2.1)
        have HS4_ := (hb.cell (World.block_lt_of_cell? _ _ (hHeld.2.2.2.2.1))).trans (hHeld.2.2.2.2.1)
        have HS5_ := (hb.cell (World.block_lt_of_cell? _ _ (hHeld.2.2.2.2.2.1))).trans (hHeld.2.2.2.2.2.1)
        have HS6_ := (hb.cell (World.block_lt_of_cell? _ _ (hHeld.2.2.2.2.2.2.1))).trans (hHeld.2.2.2.2.2.2.1)
        have HS7_ := (hb.cell (World.block_lt_of_cell? _ _ (hHeld.2.2.2.2.2.2.2.1))).trans (hHeld.2.2.2.2.2.2.2.1)
        have HS8_ := (hb.cell (World.block_lt_of_cell? _ _ (hHeld.2.2.2.2.2.2.2.2.1))).trans (hHeld.2.2.2.2.2.2.2.2.1)
        have HS9_ := (hb.cell (World.block_lt_of_cell? _ _ (hHeld.2.2.2.2.2.2.2.2.2.1))).trans (hHeld.2.2.2.2.2.2.2.2.2.1)
        have HS10_ := (hb.cell (World.block_lt_of_cell? _ _ (hHeld.2.2.2.2.2.2.2.2.2.2.1))).trans (hHeld.2.2.2.2.2.2.2.2.2.2.1)
        have HS11_ := (hb.cell (World.block_lt_of_cell? _ _ (hHeld.2.2.2.2.2.2.2.2.2.2.2.1))).trans (hHeld.2.2.2.2.2.2.2.2.2.2.2.1)
        have HS12_ := (hb.cell (World.block_lt_of_cell? _ _ (hHeld.2.2.2.2.2.2.2.2.2.2.2.2.1))).trans (hHeld.2.2.2.2.2.2.2.2.2.2.2.2.1)
        have HS13_ := (hb.cell (World.block_lt_of_cell? _ _ (hHeld.2.2.2.2.2.2.2.2.2.2.2.2.2.1))).trans (hHeld.2.2.2.2.2.2.2.2.2.2.2.2.2.1)
        have HS14_ := (hb.cell (World.block_lt_of_cell? _ _ (hHeld.2.2.2.2.2.2.2.2.2.2.2.2.2.2.1))).trans (hHeld.2.2.2.2.2.2.2.2.2.2.2.2.2.2.1)
        have HS15_ := (hb.cell (World.block_lt_of_cell? _ _ (hHeld.2.2.2.2.2.2.2.2.2.2.2.2.2.2.2.1))).trans (hHeld.2.2.2.2.2.2.2.2.2.2.2.2.2.2.2.1)
        have HS16_ := (hb.cell (World.block_lt_of_cell? _ _ (hHeld.2.2.2.2.2.2.2.2.2.2.2.2.2.2.2.2.1))).trans (hHeld.2.2.2.2.2.2.2.2.2.2.2.2.2.2.2.2.1)
        have HS17_ := (hb.cell (World.block_lt_of_cell? _ _ (hHeld.2.2.2.2.2.2.2.2.2.2.2.2.2.2.2.2.2.1))).trans (hHeld.2.2.2.2.2.2.2.2.2.2.2.2.2.2.2.2.2.1)
        have HS18_ := (hb.cell (World.block_lt_of_cell? _ _ (hHeld.2.2.2.2.2.2.2.2.2.2.2.2.2.2.2.2.2.2.1))).trans (hHeld.2.2.2.2.2.2.2.2.2.2.2.2.2.2.2.2.2.2.1)
        have HS19_ := (hb.cell (World.block_lt_of_cell? _ _ (hHeld.2.2.2.2.2.2.2.2.2.2.2.2.2.2.2.2.2.2.2.1))).trans (hHeld.2.2.2.2.2.2.2.2.2.2.2.2.2.2.2.2.2.2.2.1)
        have HS20_ := (hb.cell (World.block_lt_of_cell? _ _ (hHeld.2.2.2.2.2.2.2.2.2.2.2.2.2.2.2.2.2.2.2.2))).trans (hHeld.2.2.2.2.2.2.2.2.2.2.2.2.2.2.2.2.2.2.2.2)
        clear hg_ hnew_
        (first | rw [← Ny292.out] at ho72 | (simp only [Int.reduceToNat] at ho72; rw [← Ny292.out] at ho72))
        replace HO_270001 := Aside0.mk (rB3 HO_270001.out hb)
        have HO294 := Aside0.mk (Kd.R_lower (Kd.R_new' (Kd.R_new' ho72 (Kd.R_lt HO_4.out)) (Kd.R_lt HO290.out)) (eZ3 HB.out))
        replace HO_4 := Aside0.mk (Kd.R_elder' HO_4.out (Kd.R_base ho72) hb)
        replace HO290 := Aside0.mk (Kd.R_elder' HO290.out (Kd.R_base ho72) hb)
        replace BK269 := kb_ BK269 hb
        replace HR280 := Aside0.mk (Kd.C_below (by repeat (first | (with_reducible exact HR280.out) | (with_reducible refine cA3 ?_ _) | (with_reducible refine cN3 ?_ _) | (with_reducible refine cD3 ?_) | exact HR280.out)) hb)
        replace HR287 := Aside0.mk (Kd.C_below (by repeat (first | (with_reducible exact HR287.out) | (with_reducible refine cA3 ?_ _) | (with_reducible refine cN3 ?_ _) | (with_reducible refine cD3 ?_) | exact HR287.out)) hb)
        replace HB := Aside0.mk (below_step HB.out hb)
        clear hb ho72
        refine hK.out _ _ ⟨ct_ BK269.out 0, ct_ BK269.out 1, HS2_, HS3_, HS4_, HS5_, HS6_, HS7_, HS8_, HS9_, HS10_, HS11_, HS12_, HS13_, HS14_, HS15_, HS16_, HS17_, HS18_, HS19_, HS20_⟩ (fun hHeld => ?_)
        clear hK K
        refine nm1_ (some 55) ?_
        refine two_ (i := 8) (j := 13) (Ni := some 57) (Nj := some 62) z3_27 z3_28 rfl rfl rfl rfl (two_of HT_.out (by kernel_rfl)) (by decide) (by decide) (fun K hK => ?_) (fun K hK => ?_)
        ·skip
         refine Kd.R_append_rows_step k31 (w0 := w) w.heap.size (by rfl) (.tmp 55) (.tmp 56) 26 31 (.agg #[(.int .i64 0), (.int .i64 0), (.int .i64 0)]) 24 rfl Try.underlying26 info31 rfl (by decide) (by omega) v293 y292 t266 _ _ _ (fun k_ => some k_ ≠ (.slice (some ad298) t266.length co10 : Value).ownBlock ∧ some k_ ≠ (.slice Ao68 y288.length co68 : Value).ownBlock) (fun _ => False) rfl rfl ?aO ?aR (fun _ _ h => h) (fun _ h => h.elim) ?aF ?aB ?aS ?aL ?_
         (case aR => repeat (first | exact (rR3 HO_4.out).2.2 | (with_reducible refine cA3 ?_ _) | (with_reducible refine cN3 ?_ _) | (with_reducible refine cD3 ?_)))
         (case aB => exact HB.out)
         (case aF => exact (fun k_ hk => ⟨Kd.fresh' (Kd.R_lt HO_4.out) k_ hk, Kd.fresh' (Kd.R_lt HO290.out) k_ hk⟩))
         (case aO => exact (by (with_reducible repeat (first | apply rA3 | apply rN3 | apply rD3)); exact Kd.R_mono HO294.out (fun _ hk => by first | exact ⟨hk.1.2, hk.2⟩ | trivial | simp_all)))
         (case aS => exact (eZ3 HB.out))
         (case aL => have := LMc32.out; omega)
         intro v296 w73 ho hb hg hat
         have HS2_ := cga_ hg (hHeld.2.2.1) HO294.out.1
         have HS3_ := cga_ hg (hHeld.2.2.2.1) HO294.out.1
         have HS4_ := cga_ hg (hHeld.2.2.2.2.1) HO294.out.1
         have HS5_ := cga_ hg (hHeld.2.2.2.2.2.1) HO294.out.1
         have HS6_ := cga_ hg (hHeld.2.2.2.2.2.2.1) HO294.out.1
         have HS7_ := cga_ hg (hHeld.2.2.2.2.2.2.2.1) HO294.out.1
         have HS8_ := cg_ hg (hHeld.2.2.2.2.2.2.2.2.1) (ry_ hg HO_270001.out HO294.out (by decide) rfl)
         have HS9_ := cg_ hg (hHeld.2.2.2.2.2.2.2.2.2.1) (ry_ hg HO_270001.out HO294.out (by decide) rfl)
         have HS10_ := cg_ hg (hHeld.2.2.2.2.2.2.2.2.2.2.1) (ry_ hg HO_270001.out HO294.out (by decide) rfl)
         have HS11_ := cg_ hg (hHeld.2.2.2.2.2.2.2.2.2.2.2.1) (ry_ hg HO_270001.out HO294.out (by decide) rfl)
         have HS12_ := cg_ hg (hHeld.2.2.2.2.2.2.2.2.2.2.2.2.1) (ry_ hg HO_270001.out HO294.out (by decide) rfl)
         have HS13_ := cga_ hg (hHeld.2.2.2.2.2.2.2.2.2.2.2.2.2.1) HO294.out.1
         have HS14_ := cga_ hg (hHeld.2.2.2.2.2.2.2.2.2.2.2.2.2.2.1) HO294.out.1
         have HS15_ := cga_ hg (hHeld.2.2.2.2.2.2.2.2.2.2.2.2.2.2.2.1) HO294.out.1
         have HS16_ := cg_ hg (hHeld.2.2.2.2.2.2.2.2.2.2.2.2.2.2.2.2.1) (ry_ hg HO_270001.out HO294.out (by decide) rfl)
         have HS17_ := cg_ hg (hHeld.2.2.2.2.2.2.2.2.2.2.2.2.2.2.2.2.2.1) (ry_ hg HO_270001.out HO294.out (by decide) rfl)
         have HS18_ := cg_ hg (hHeld.2.2.2.2.2.2.2.2.2.2.2.2.2.2.2.2.2.2.1) (ry_ hg HO_270001.out HO294.out (by decide) rfl)
         have HS19_ := cg_ hg (hHeld.2.2.2.2.2.2.2.2.2.2.2.2.2.2.2.2.2.2.2.1) (ry_ hg HO_270001.out HO294.out (by decide) rfl)
         have HS20_ := cg_ hg (hHeld.2.2.2.2.2.2.2.2.2.2.2.2.2.2.2.2.2.2.2.2) (ry_ hg HO_270001.out HO294.out (by decide) rfl)
         rw [← Ny295.out] at ho
         replace HO_270001 := Aside0.mk (Kd.R_over' HO_270001.out (Kd.R_typed HO294.out) (by decide) hg)
         replace BK269 := Aside0.mk (blk_grown (g := gb269) (o := .cells #[.int .i64 t262, .slice (some ad307) t263.length co9] 25 (0, 0)) BK269.out hg (Kd.R_ne HO294.out BK269.out (by decide)))
         replace HO290 := Aside0.mk (Kd.R_after (ok := (fun k_ => some k_ ≠ (.slice (some ad298) t266.length co10 : Value).ownBlock)) HO290.out hg hat)
         replace HB := Aside0.mk (hb)
         replace HR280 := Aside0.mk ((show Kd.C k31 w73 (some ad298) y277.length y277 from by rw [Ny277.out]; exact Kd.C_take (m := (x6_2 : Int).toNat) ((rR3 (Kd.R_after (ok := (fun k_ => some k_ ≠ (.slice Ao68 y288.length co68 : Value).ownBlock)) (by (with_reducible repeat (first | apply rA3 | apply rN3 | apply rD3)); exact Kd.R_mono HO_4.out (fun _ hk => by first | exact ⟨hk.1.2, hk.2⟩ | trivial | simp_all)) hg hat)).2.2) KL62.out))
         replace HR287 := Aside0.mk ((show Kd.C k31 w73 A63 y284.length y284 from by rw [Ny284.out, KA63.out]; exact Kd.C_drop (m := ((ji26) : Int).toNat) (c := co10) ((rR3 (Kd.R_after (ok := (fun k_ => some k_ ≠ (.slice Ao68 y288.length co68 : Value).ownBlock)) (by (with_reducible repeat (first | apply rA3 | apply rN3 | apply rD3)); exact Kd.R_mono HO_4.out (fun _ hk => by first | exact ⟨hk.1.2, hk.2⟩ | trivial | simp_all)) hg hat)).2.2) KL63.out ((rR3 (Kd.R_after (ok := (fun k_ => some k_ ≠ (.slice Ao68 y288.length co68 : Value).ownBlock)) (by (with_reducible repeat (first | apply rA3 | apply rN3 | apply rD3)); exact Kd.R_mono HO_4.out (fun _ hk => by first | exact ⟨hk.1.2, hk.2⟩ | trivial | simp_all)) hg hat)).2.1)))
         replace HO_4 := Aside0.mk (Kd.R_after (ok := (fun k_ => some k_ ≠ (.slice Ao68 y288.length co68 : Value).ownBlock)) (by (with_reducible repeat (first | apply rA3 | apply rN3 | apply rD3)); exact Kd.R_mono HO_4.out (fun _ hk => by first | exact ⟨hk.1.2, hk.2⟩ | trivial | simp_all)) hg hat)
         have HO297 := Aside0.mk (ho)
         clear HO294 ho hb hg hat
         refine hK.out _ _ ⟨ct_ BK269.out 0, ct_ BK269.out 1, HS2_, HS3_, HS4_, HS5_, HS6_, HS7_, HS8_, HS9_, HS10_, HS11_, HS12_, HS13_, HS14_, HS15_, HS16_, HS17_, HS18_, HS19_, HS20_⟩ (fun hHeld => ?_)
         clear hK K
         refine nm1_ (some 57) ?_
         refine one_ (i := 13) (N := some 62) z3_24 rfl rfl (one_of HT_.out (by kernel_rfl)) (by decide) (fun K hK => ?_)
         refine Kd.R_lit_step k31 _ 31 ?hg (N := 62) ?hd (xs := ([(⟨(rd_T31 t266 x6_2).f0, (rd_T31 t266 x6_2).f1, (rd_T31 t266 x6_2).f2⟩ : S31)] : List (S31))) (inner := [.int .i64 ((rd_T31 t266 x6_2).f0), .int .i64 ((rd_T31 t266 x6_2).f1), .int .i64 ((rd_T31 t266 x6_2).f2)]) (ok := fun _ => True) (okp := fun _ => True) ?hr ?hp (fun _ hk => hk) trivial (Below.refl _ _) (Nat.le_refl _) (by simp) ?_; (case hd => rfl); (case hg => rfl); (case hr => first | (go_simp; done) | (go_simp; rfl)); (case hp => exact (Reps.c3 (show Kd.M k31 _ _ _ (⟨(rd_T31 t266 x6_2).f0, (rd_T31 t266 x6_2).f1, (rd_T31 t266 x6_2).f2⟩ : S31) [.int .i64 ((rd_T31 t266 x6_2).f0), .int .i64 ((rd_T31 t266 x6_2).f1), .int .i64 ((rd_T31 t266 x6_2).f2)] from (k31_mkM _ _ _ (⟨(rd_T31 t266 x6_2).f0, (rd_T31 t266 x6_2).f1, (rd_T31 t266 x6_2).f2⟩ : S31) )) (Reps.none _ _)))
         intro v300 w74 ho75 hb hg_ hnew_
         have HS2_ := (hb.cell (World.block_lt_of_cell? _ _ (hHeld.2.2.1))).trans (hHeld.2.2.1)
         have HS3_ := (hb.cell (World.block_lt_of_cell? _ _ (hHeld.2.2.2.1))).trans (hHeld.2.2.2.1)
         have HS4_ := (hb.cell (World.block_lt_of_cell? _ _ (hHeld.2.2.2.2.1))).trans (hHeld.2.2.2.2.1)
         have HS5_ := (hb.cell (World.block_lt_of_cell? _ _ (hHeld.2.2.2.2.2.1))).trans (hHeld.2.2.2.2.2.1)
         have HS6_ := (hb.cell (World.block_lt_of_cell? _ _ (hHeld.2.2.2.2.2.2.1))).trans (hHeld.2.2.2.2.2.2.1)
         have HS7_ := (hb.cell (World.block_lt_of_cell? _ _ (hHeld.2.2.2.2.2.2.2.1))).trans (hHeld.2.2.2.2.2.2.2.1)
         have HS8_ := (hb.cell (World.block_lt_of_cell? _ _ (hHeld.2.2.2.2.2.2.2.2.1))).trans (hHeld.2.2.2.2.2.2.2.2.1)
         have HS9_ := (hb.cell (World.block_lt_of_cell? _ _ (hHeld.2.2.2.2.2.2.2.2.2.1))).trans (hHeld.2.2.2.2.2.2.2.2.2.1)
         have HS10_ := (hb.cell (World.block_lt_of_cell? _ _ (hHeld.2.2.2.2.2.2.2.2.2.2.1))).trans (hHeld.2.2.2.2.2.2.2.2.2.2.1)
         have HS11_ := (hb.cell (World.block_lt_of_cell? _ _ (hHeld.2.2.2.2.2.2.2.2.2.2.2.1))).trans (hHeld.2.2.2.2.2.2.2.2.2.2.2.1)
         have HS12_ := (hb.cell (World.block_lt_of_cell? _ _ (hHeld.2.2.2.2.2.2.2.2.2.2.2.2.1))).trans (hHeld.2.2.2.2.2.2.2.2.2.2.2.2.1)
         have HS13_ := (hb.cell (World.block_lt_of_cell? _ _ (hHeld.2.2.2.2.2.2.2.2.2.2.2.2.2.1))).trans (hHeld.2.2.2.2.2.2.2.2.2.2.2.2.2.1)
         have HS14_ := (hb.cell (World.block_lt_of_cell? _ _ (hHeld.2.2.2.2.2.2.2.2.2.2.2.2.2.2.1))).trans (hHeld.2.2.2.2.2.2.2.2.2.2.2.2.2.2.1)
         have HS15_ := (hb.cell (World.block_lt_of_cell? _ _ (hHeld.2.2.2.2.2.2.2.2.2.2.2.2.2.2.2.1))).trans (hHeld.2.2.2.2.2.2.2.2.2.2.2.2.2.2.2.1)
         have HS16_ := (hb.cell (World.block_lt_of_cell? _ _ (hHeld.2.2.2.2.2.2.2.2.2.2.2.2.2.2.2.2.1))).trans (hHeld.2.2.2.2.2.2.2.2.2.2.2.2.2.2.2.2.1)
         have HS17_ := (hb.cell (World.block_lt_of_cell? _ _ (hHeld.2.2.2.2.2.2.2.2.2.2.2.2.2.2.2.2.2.1))).trans (hHeld.2.2.2.2.2.2.2.2.2.2.2.2.2.2.2.2.2.1)
         have HS18_ := (hb.cell (World.block_lt_of_cell? _ _ (hHeld.2.2.2.2.2.2.2.2.2.2.2.2.2.2.2.2.2.2.1))).trans (hHeld.2.2.2.2.2.2.2.2.2.2.2.2.2.2.2.2.2.2.1)
         have HS19_ := (hb.cell (World.block_lt_of_cell? _ _ (hHeld.2.2.2.2.2.2.2.2.2.2.2.2.2.2.2.2.2.2.2.1))).trans (hHeld.2.2.2.2.2.2.2.2.2.2.2.2.2.2.2.2.2.2.2.1)
         have HS20_ := (hb.cell (World.block_lt_of_cell? _ _ (hHeld.2.2.2.2.2.2.2.2.2.2.2.2.2.2.2.2.2.2.2.2))).trans (hHeld.2.2.2.2.2.2.2.2.2.2.2.2.2.2.2.2.2.2.2.2)
         clear hg_ hnew_
         (first | rw [← Ny299.out] at ho75 | (simp only [Int.reduceToNat] at ho75; rw [← Ny299.out] at ho75))
         replace HO_270001 := Aside0.mk (rB3 HO_270001.out hb)
         have HO301 := Aside0.mk (Kd.R_lower (Kd.R_new' (Kd.R_new' (Kd.R_new' ho75 (Kd.R_lt HO_4.out)) (Kd.R_lt HO290.out)) (Kd.R_lt HO297.out)) (eZ3 HB.out))
         replace HO_4 := Aside0.mk (Kd.R_elder' HO_4.out (Kd.R_base ho75) hb)
         replace HO290 := Aside0.mk (Kd.R_elder' HO290.out (Kd.R_base ho75) hb)
         replace HO297 := Aside0.mk (Kd.R_elder' HO297.out (Kd.R_base ho75) hb)
         replace BK269 := kb_ BK269 hb
         replace HR280 := Aside0.mk (Kd.C_below (by repeat (first | (with_reducible exact HR280.out) | (with_reducible refine cA3 ?_ _) | (with_reducible refine cN3 ?_ _) | (with_reducible refine cD3 ?_) | exact HR280.out)) hb)
         replace HR287 := Aside0.mk (Kd.C_below (by repeat (first | (with_reducible exact HR287.out) | (with_reducible refine cA3 ?_ _) | (with_reducible refine cN3 ?_ _) | (with_reducible refine cD3 ?_) | exact HR287.out)) hb)
         replace HB := Aside0.mk (below_step HB.out hb)
         clear hb ho75
         refine hK.out _ _ ⟨ct_ BK269.out 0, ct_ BK269.out 1, HS2_, HS3_, HS4_, HS5_, HS6_, HS7_, HS8_, HS9_, HS10_, HS11_, HS12_, HS13_, HS14_, HS15_, HS16_, HS17_, HS18_, HS19_, HS20_⟩ (fun hHeld => ?_)
         clear hK K
         refine nm1_ (some 62) ?_
         exact norm_ (by simp only [putAll, Act.put, List.setIfInBounds_toArray, List.set_cons_zero, List.set_cons_succ]) (hCont (v293, v296, v300) _ ⟨hHeld, (by (with_reducible repeat (first | apply rA3 | apply rN3 | apply rD3)); exact Kd.R_mono HO290.out (fun _ hk => by first | exact ⟨hk.1.2, ⟨hk.2, hk.1.1⟩⟩ | trivial | simp_all)), (by (with_reducible repeat (first | apply rA3 | apply rN3 | apply rD3)); exact Kd.R_mono HO297.out (fun _ hk => by first | exact ⟨hk.1.2, ⟨hk.2, hk.1.1⟩⟩ | trivial | simp_all)), (by (with_reducible repeat (first | apply rA3 | apply rN3 | apply rD3)); exact Kd.R_mono HO301.out (fun _ hk => by first | exact ⟨hk.1.2, ⟨hk.2, hk.1.1.2⟩⟩ | trivial | simp_all)), HO_270001.out, (by (with_reducible repeat (first | apply rA3 | apply rN3 | apply rD3)); exact Kd.R_mono HO_4.out (fun _ hk => by first | exact ⟨hk.1.1, ⟨hk.1.2, hk.2⟩⟩ | trivial | simp_all)), BK269.out, HB.out⟩)
        ·skip
         refine Kd.R_lit_step k31 _ 31 ?hg (N := 62) ?hd (xs := ([(⟨(rd_T31 t266 x6_2).f0, (rd_T31 t266 x6_2).f1, (rd_T31 t266 x6_2).f2⟩ : S31)] : List (S31))) (inner := [.int .i64 ((rd_T31 t266 x6_2).f0), .int .i64 ((rd_T31 t266 x6_2).f1), .int .i64 ((rd_T31 t266 x6_2).f2)]) (ok := fun _ => True) (okp := fun _ => True) ?hr ?hp (fun _ hk => hk) trivial (Below.refl _ _) (Nat.le_refl _) (by simp) ?_; (case hd => rfl); (case hg => rfl); (case hr => first | (go_simp; done) | (go_simp; rfl)); (case hp => exact (Reps.c3 (show Kd.M k31 _ _ _ (⟨(rd_T31 t266 x6_2).f0, (rd_T31 t266 x6_2).f1, (rd_T31 t266 x6_2).f2⟩ : S31) [.int .i64 ((rd_T31 t266 x6_2).f0), .int .i64 ((rd_T31 t266 x6_2).f1), .int .i64 ((rd_T31 t266 x6_2).f2)] from (k31_mkM _ _ _ (⟨(rd_T31 t266 x6_2).f0, (rd_T31 t266 x6_2).f1, (rd_T31 t266 x6_2).f2⟩ : S31) )) (Reps.none _ _)))
         intro v300 w73 ho74 hb hg_ hnew_
         have HS2_ := (hb.cell (World.block_lt_of_cell? _ _ (hHeld.2.2.1))).trans (hHeld.2.2.1)
         have HS3_ := (hb.cell (World.block_lt_of_cell? _ _ (hHeld.2.2.2.1))).trans (hHeld.2.2.2.1)
         have HS4_ := (hb.cell (World.block_lt_of_cell? _ _ (hHeld.2.2.2.2.1))).trans (hHeld.2.2.2.2.1)
         have HS5_ := (hb.cell (World.block_lt_of_cell? _ _ (hHeld.2.2.2.2.2.1))).trans (hHeld.2.2.2.2.2.1)
         have HS6_ := (hb.cell (World.block_lt_of_cell? _ _ (hHeld.2.2.2.2.2.2.1))).trans (hHeld.2.2.2.2.2.2.1)
         have HS7_ := (hb.cell (World.block_lt_of_cell? _ _ (hHeld.2.2.2.2.2.2.2.1))).trans (hHeld.2.2.2.2.2.2.2.1)
         have HS8_ := (hb.cell (World.block_lt_of_cell? _ _ (hHeld.2.2.2.2.2.2.2.2.1))).trans (hHeld.2.2.2.2.2.2.2.2.1)
         have HS9_ := (hb.cell (World.block_lt_of_cell? _ _ (hHeld.2.2.2.2.2.2.2.2.2.1))).trans (hHeld.2.2.2.2.2.2.2.2.2.1)
         have HS10_ := (hb.cell (World.block_lt_of_cell? _ _ (hHeld.2.2.2.2.2.2.2.2.2.2.1))).trans (hHeld.2.2.2.2.2.2.2.2.2.2.1)
         have HS11_ := (hb.cell (World.block_lt_of_cell? _ _ (hHeld.2.2.2.2.2.2.2.2.2.2.2.1))).trans (hHeld.2.2.2.2.2.2.2.2.2.2.2.1)
         have HS12_ := (hb.cell (World.block_lt_of_cell? _ _ (hHeld.2.2.2.2.2.2.2.2.2.2.2.2.1))).trans (hHeld.2.2.2.2.2.2.2.2.2.2.2.2.1)
         have HS13_ := (hb.cell (World.block_lt_of_cell? _ _ (hHeld.2.2.2.2.2.2.2.2.2.2.2.2.2.1))).trans (hHeld.2.2.2.2.2.2.2.2.2.2.2.2.2.1)
         have HS14_ := (hb.cell (World.block_lt_of_cell? _ _ (hHeld.2.2.2.2.2.2.2.2.2.2.2.2.2.2.1))).trans (hHeld.2.2.2.2.2.2.2.2.2.2.2.2.2.2.1)
         have HS15_ := (hb.cell (World.block_lt_of_cell? _ _ (hHeld.2.2.2.2.2.2.2.2.2.2.2.2.2.2.2.1))).trans (hHeld.2.2.2.2.2.2.2.2.2.2.2.2.2.2.2.1)
         have HS16_ := (hb.cell (World.block_lt_of_cell? _ _ (hHeld.2.2.2.2.2.2.2.2.2.2.2.2.2.2.2.2.1))).trans (hHeld.2.2.2.2.2.2.2.2.2.2.2.2.2.2.2.2.1)
         have HS17_ := (hb.cell (World.block_lt_of_cell? _ _ (hHeld.2.2.2.2.2.2.2.2.2.2.2.2.2.2.2.2.2.1))).trans (hHeld.2.2.2.2.2.2.2.2.2.2.2.2.2.2.2.2.2.1)
         have HS18_ := (hb.cell (World.block_lt_of_cell? _ _ (hHeld.2.2.2.2.2.2.2.2.2.2.2.2.2.2.2.2.2.2.1))).trans (hHeld.2.2.2.2.2.2.2.2.2.2.2.2.2.2.2.2.2.2.1)
         have HS19_ := (hb.cell (World.block_lt_of_cell? _ _ (hHeld.2.2.2.2.2.2.2.2.2.2.2.2.2.2.2.2.2.2.2.1))).trans (hHeld.2.2.2.2.2.2.2.2.2.2.2.2.2.2.2.2.2.2.2.1)
         have HS20_ := (hb.cell (World.block_lt_of_cell? _ _ (hHeld.2.2.2.2.2.2.2.2.2.2.2.2.2.2.2.2.2.2.2.2))).trans (hHeld.2.2.2.2.2.2.2.2.2.2.2.2.2.2.2.2.2.2.2.2)
         clear hg_ hnew_
         (first | rw [← Ny299.out] at ho74 | (simp only [Int.reduceToNat] at ho74; rw [← Ny299.out] at ho74))
         replace HO_270001 := Aside0.mk (rB3 HO_270001.out hb)
         have HO301 := Aside0.mk (Kd.R_lower (Kd.R_new' (Kd.R_new' (Kd.R_new' ho74 (Kd.R_lt HO_4.out)) (Kd.R_lt HO290.out)) (Kd.R_lt HO294.out)) (eZ3 HB.out))
         replace HO_4 := Aside0.mk (Kd.R_elder' HO_4.out (Kd.R_base ho74) hb)
         replace HO290 := Aside0.mk (Kd.R_elder' HO290.out (Kd.R_base ho74) hb)
         replace HO294 := Aside0.mk (Kd.R_elder' HO294.out (Kd.R_base ho74) hb)
         replace BK269 := kb_ BK269 hb
         replace HR280 := Aside0.mk (Kd.C_below (by repeat (first | (with_reducible exact HR280.out) | (with_reducible refine cA3 ?_ _) | (with_reducible refine cN3 ?_ _) | (with_reducible refine cD3 ?_) | exact HR280.out)) hb)
         replace HR287 := Aside0.mk (Kd.C_below (by repeat (first | (with_reducible exact HR287.out) | (with_reducible refine cA3 ?_ _) | (with_reducible refine cN3 ?_ _) | (with_reducible refine cD3 ?_) | exact HR287.out)) hb)
         replace HB := Aside0.mk (below_step HB.out hb)
         clear hb ho74
         refine hK.out _ _ ⟨ct_ BK269.out 0, ct_ BK269.out 1, HS2_, HS3_, HS4_, HS5_, HS6_, HS7_, HS8_, HS9_, HS10_, HS11_, HS12_, HS13_, HS14_, HS15_, HS16_, HS17_, HS18_, HS19_, HS20_⟩ (fun hHeld => ?_)
         clear hK K
         refine nm1_ (some 62) ?_
         refine one_ (i := 8) (N := some 57) z3_24 rfl rfl (one_of HT_.out (by kernel_rfl)) (by decide) (fun K hK => ?_)
         refine Kd.R_append_rows_step k31 (w0 := w) w.heap.size (by rfl) (.tmp 55) (.tmp 56) 26 31 (.agg #[(.int .i64 0), (.int .i64 0), (.int .i64 0)]) 24 rfl Try.underlying26 info31 rfl (by decide) (by omega) v293 y292 t266 _ _ _ (fun k_ => some k_ ≠ (.slice (some ad298) t266.length co10 : Value).ownBlock ∧ some k_ ≠ (.slice Ao68 y288.length co68 : Value).ownBlock ∧ some k_ ≠ (v300 : Value).ownBlock) (fun _ => False) rfl rfl ?aO ?aR (fun _ _ h => h) (fun _ h => h.elim) ?aF ?aB ?aS ?aL ?_
         (case aR => repeat (first | exact (rR3 HO_4.out).2.2 | (with_reducible refine cA3 ?_ _) | (with_reducible refine cN3 ?_ _) | (with_reducible refine cD3 ?_)))
         (case aB => exact HB.out)
         (case aF => exact (fun k_ hk => ⟨Kd.fresh' (Kd.R_lt HO_4.out) k_ hk, Kd.fresh' (Kd.R_lt HO290.out) k_ hk, Kd.fresh' (Kd.R_lt HO301.out) k_ hk⟩))
         (case aO => exact (by (with_reducible repeat (first | apply rA3 | apply rN3 | apply rD3)); exact Kd.R_mono HO294.out (fun _ hk => by first | exact ⟨hk.1.1.2, ⟨hk.1.2, hk.2⟩⟩ | trivial | simp_all)))
         (case aS => exact (eZ3 HB.out))
         (case aL => have := LMc32.out; omega)
         intro v296 w75 ho hb hg hat
         have HS2_ := cga_ hg (hHeld.2.2.1) HO294.out.1
         have HS3_ := cga_ hg (hHeld.2.2.2.1) HO294.out.1
         have HS4_ := cga_ hg (hHeld.2.2.2.2.1) HO294.out.1
         have HS5_ := cga_ hg (hHeld.2.2.2.2.2.1) HO294.out.1
         have HS6_ := cga_ hg (hHeld.2.2.2.2.2.2.1) HO294.out.1
         have HS7_ := cga_ hg (hHeld.2.2.2.2.2.2.2.1) HO294.out.1
         have HS8_ := cg_ hg (hHeld.2.2.2.2.2.2.2.2.1) (ry_ hg HO_270001.out HO294.out (by decide) rfl)
         have HS9_ := cg_ hg (hHeld.2.2.2.2.2.2.2.2.2.1) (ry_ hg HO_270001.out HO294.out (by decide) rfl)
         have HS10_ := cg_ hg (hHeld.2.2.2.2.2.2.2.2.2.2.1) (ry_ hg HO_270001.out HO294.out (by decide) rfl)
         have HS11_ := cg_ hg (hHeld.2.2.2.2.2.2.2.2.2.2.2.1) (ry_ hg HO_270001.out HO294.out (by decide) rfl)
         have HS12_ := cg_ hg (hHeld.2.2.2.2.2.2.2.2.2.2.2.2.1) (ry_ hg HO_270001.out HO294.out (by decide) rfl)
         have HS13_ := cga_ hg (hHeld.2.2.2.2.2.2.2.2.2.2.2.2.2.1) HO294.out.1
         have HS14_ := cga_ hg (hHeld.2.2.2.2.2.2.2.2.2.2.2.2.2.2.1) HO294.out.1
         have HS15_ := cga_ hg (hHeld.2.2.2.2.2.2.2.2.2.2.2.2.2.2.2.1) HO294.out.1
         have HS16_ := cg_ hg (hHeld.2.2.2.2.2.2.2.2.2.2.2.2.2.2.2.2.1) (ry_ hg HO_270001.out HO294.out (by decide) rfl)
         have HS17_ := cg_ hg (hHeld.2.2.2.2.2.2.2.2.2.2.2.2.2.2.2.2.2.1) (ry_ hg HO_270001.out HO294.out (by decide) rfl)
         have HS18_ := cg_ hg (hHeld.2.2.2.2.2.2.2.2.2.2.2.2.2.2.2.2.2.2.1) (ry_ hg HO_270001.out HO294.out (by decide) rfl)
         have HS19_ := cg_ hg (hHeld.2.2.2.2.2.2.2.2.2.2.2.2.2.2.2.2.2.2.2.1) (ry_ hg HO_270001.out HO294.out (by decide) rfl)
         have HS20_ := cg_ hg (hHeld.2.2.2.2.2.2.2.2.2.2.2.2.2.2.2.2.2.2.2.2) (ry_ hg HO_270001.out HO294.out (by decide) rfl)
         rw [← Ny295.out] at ho
         replace HO_270001 := Aside0.mk (Kd.R_over' HO_270001.out (Kd.R_typed HO294.out) (by decide) hg)
         replace BK269 := Aside0.mk (blk_grown (g := gb269) (o := .cells #[.int .i64 t262, .slice (some ad307) t263.length co9] 25 (0, 0)) BK269.out hg (Kd.R_ne HO294.out BK269.out (by decide)))
         replace HO290 := Aside0.mk (Kd.R_after (ok := (fun k_ => some k_ ≠ (.slice (some ad298) t266.length co10 : Value).ownBlock ∧ some k_ ≠ (v300 : Value).ownBlock)) (by (with_reducible repeat (first | apply rA3 | apply rN3 | apply rD3)); exact Kd.R_mono HO290.out (fun _ hk => by first | exact ⟨⟨hk.1.1, hk.2⟩, hk.1.2⟩ | trivial | simp_all)) hg hat)
         replace HO301 := Aside0.mk (Kd.R_after (ok := (fun k_ => some k_ ≠ (.slice (some ad298) t266.length co10 : Value).ownBlock ∧ some k_ ≠ (.slice Ao68 y288.length co68 : Value).ownBlock)) (by (with_reducible repeat (first | apply rA3 | apply rN3 | apply rD3)); exact Kd.R_mono HO301.out (fun _ hk => by first | exact ⟨⟨hk.1.1.2, hk.1.2⟩, hk.2⟩ | trivial | simp_all)) hg hat)
         replace HB := Aside0.mk (hb)
         replace HR280 := Aside0.mk ((show Kd.C k31 w75 (some ad298) y277.length y277 from by rw [Ny277.out]; exact Kd.C_take (m := (x6_2 : Int).toNat) ((rR3 (Kd.R_after (ok := (fun k_ => some k_ ≠ (.slice Ao68 y288.length co68 : Value).ownBlock ∧ some k_ ≠ (v300 : Value).ownBlock)) (by (with_reducible repeat (first | apply rA3 | apply rN3 | apply rD3)); exact Kd.R_mono HO_4.out (fun _ hk => by first | exact ⟨⟨hk.1.1.2, hk.2⟩, hk.1.2⟩ | trivial | simp_all)) hg hat)).2.2) KL62.out))
         replace HR287 := Aside0.mk ((show Kd.C k31 w75 A63 y284.length y284 from by rw [Ny284.out, KA63.out]; exact Kd.C_drop (m := ((ji26) : Int).toNat) (c := co10) ((rR3 (Kd.R_after (ok := (fun k_ => some k_ ≠ (.slice Ao68 y288.length co68 : Value).ownBlock ∧ some k_ ≠ (v300 : Value).ownBlock)) (by (with_reducible repeat (first | apply rA3 | apply rN3 | apply rD3)); exact Kd.R_mono HO_4.out (fun _ hk => by first | exact ⟨⟨hk.1.1.2, hk.2⟩, hk.1.2⟩ | trivial | simp_all)) hg hat)).2.2) KL63.out ((rR3 (Kd.R_after (ok := (fun k_ => some k_ ≠ (.slice Ao68 y288.length co68 : Value).ownBlock ∧ some k_ ≠ (v300 : Value).ownBlock)) (by (with_reducible repeat (first | apply rA3 | apply rN3 | apply rD3)); exact Kd.R_mono HO_4.out (fun _ hk => by first | exact ⟨⟨hk.1.1.2, hk.2⟩, hk.1.2⟩ | trivial | simp_all)) hg hat)).2.1)))
         replace HO_4 := Aside0.mk (Kd.R_after (ok := (fun k_ => some k_ ≠ (.slice Ao68 y288.length co68 : Value).ownBlock ∧ some k_ ≠ (v300 : Value).ownBlock)) (by (with_reducible repeat (first | apply rA3 | apply rN3 | apply rD3)); exact Kd.R_mono HO_4.out (fun _ hk => by first | exact ⟨⟨hk.1.1.2, hk.2⟩, hk.1.2⟩ | trivial | simp_all)) hg hat)
         have HO297 := Aside0.mk (ho)
         clear HO294 ho hb hg hat
         refine hK.out _ _ ⟨ct_ BK269.out 0, ct_ BK269.out 1, HS2_, HS3_, HS4_, HS5_, HS6_, HS7_, HS8_, HS9_, HS10_, HS11_, HS12_, HS13_, HS14_, HS15_, HS16_, HS17_, HS18_, HS19_, HS20_⟩ (fun hHeld => ?_)
         clear hK K
         refine nm1_ (some 57) ?_
         exact norm_ (by simp only [putAll, Act.put, List.setIfInBounds_toArray, List.set_cons_zero, List.set_cons_succ]) (hCont (v293, v296, v300) _ ⟨hHeld, (by (with_reducible repeat (first | apply rA3 | apply rN3 | apply rD3)); exact Kd.R_mono HO290.out (fun _ hk => by first | exact ⟨hk.2, ⟨hk.1.2, hk.1.1⟩⟩ | trivial | simp_all)), (by (with_reducible repeat (first | apply rA3 | apply rN3 | apply rD3)); exact Kd.R_mono HO297.out (fun _ hk => by first | exact ⟨hk.2.1, ⟨hk.2.2, hk.1⟩⟩ | trivial | simp_all)), (by (with_reducible repeat (first | apply rA3 | apply rN3 | apply rD3)); exact Kd.R_mono HO301.out (fun _ hk => by first | exact ⟨hk.1.2, ⟨hk.2, hk.1.1⟩⟩ | trivial | simp_all)), HO_270001.out, (by (with_reducible repeat (first | apply rA3 | apply rN3 | apply rD3)); exact Kd.R_mono HO_4.out (fun _ hk => by first | exact ⟨hk.1.1, ⟨hk.2, hk.1.2⟩⟩ | trivial | simp_all)), BK269.out, HB.out⟩)
       ·skip
        refine Kd.R_lit_step k31 _ 31 ?hg (N := 62) ?hd (xs := ([(⟨(rd_T31 t266 x6_2).f0, (rd_T31 t266 x6_2).f1, (rd_T31 t266 x6_2).f2⟩ : S31)] : List (S31))) (inner := [.int .i64 ((rd_T31 t266 x6_2).f0), .int .i64 ((rd_T31 t266 x6_2).f1), .int .i64 ((rd_T31 t266 x6_2).f2)]) (ok := fun _ => True) (okp := fun _ => True) ?hr ?hp (fun _ hk => hk) trivial (Below.refl _ _) (Nat.le_refl _) (by simp) ?_; (case hd => rfl); (case hg => rfl); (case hr => first | (go_simp; done) | (go_simp; rfl)); (case hp => exact (Reps.c3 (show Kd.M k31 _ _ _ (⟨(rd_T31 t266 x6_2).f0, (rd_T31 t266 x6_2).f1, (rd_T31 t266 x6_2).f2⟩ : S31) [.int .i64 ((rd_T31 t266 x6_2).f0), .int .i64 ((rd_T31 t266 x6_2).f1), .int .i64 ((rd_T31 t266 x6_2).f2)] from (k31_mkM _ _ _ (⟨(rd_T31 t266 x6_2).f0, (rd_T31 t266 x6_2).f1, (rd_T31 t266 x6_2).f2⟩ : S31) )) (Reps.none _ _)))
        intro v300 w71 ho72 hb hg_ hnew_
        have HS2_ := (hb.cell (World.block_lt_of_cell? _ _ (hHeld.2.2.1))).trans (hHeld.2.2.1)
        have HS3_ := (hb.cell (World.block_lt_of_cell? _ _ (hHeld.2.2.2.1))).trans (hHeld.2.2.2.1)
        have HS4_ := (hb.cell (World.block_lt_of_cell? _ _ (hHeld.2.2.2.2.1))).trans (hHeld.2.2.2.2.1)
        have HS5_ := (hb.cell (World.block_lt_of_cell? _ _ (hHeld.2.2.2.2.2.1))).trans (hHeld.2.2.2.2.2.1)
        have HS6_ := (hb.cell (World.block_lt_of_cell? _ _ (hHeld.2.2.2.2.2.2.1))).trans (hHeld.2.2.2.2.2.2.1)
        have HS7_ := (hb.cell (World.block_lt_of_cell? _ _ (hHeld.2.2.2.2.2.2.2.1))).trans (hHeld.2.2.2.2.2.2.2.1)
        have HS8_ := (hb.cell (World.block_lt_of_cell? _ _ (hHeld.2.2.2.2.2.2.2.2.1))).trans (hHeld.2.2.2.2.2.2.2.2.1)
        have HS9_ := (hb.cell (World.block_lt_of_cell? _ _ (hHeld.2.2.2.2.2.2.2.2.2.1))).trans (hHeld.2.2.2.2.2.2.2.2.2.1)
        have HS10_ := (hb.cell (World.block_lt_of_cell? _ _ (hHeld.2.2.2.2.2.2.2.2.2.2.1))).trans (hHeld.2.2.2.2.2.2.2.2.2.2.1)
        have HS11_ := (hb.cell (World.block_lt_of_cell? _ _ (hHeld.2.2.2.2.2.2.2.2.2.2.2.1))).trans (hHeld.2.2.2.2.2.2.2.2.2.2.2.1)
        have HS12_ := (hb.cell (World.block_lt_of_cell? _ _ (hHeld.2.2.2.2.2.2.2.2.2.2.2.2.1))).trans (hHeld.2.2.2.2.2.2.2.2.2.2.2.2.1)
        have HS13_ := (hb.cell (World.block_lt_of_cell? _ _ (hHeld.2.2.2.2.2.2.2.2.2.2.2.2.2.1))).trans (hHeld.2.2.2.2.2.2.2.2.2.2.2.2.2.1)
        have HS14_ := (hb.cell (World.block_lt_of_cell? _ _ (hHeld.2.2.2.2.2.2.2.2.2.2.2.2.2.2.1))).trans (hHeld.2.2.2.2.2.2.2.2.2.2.2.2.2.2.1)
        have HS15_ := (hb.cell (World.block_lt_of_cell? _ _ (hHeld.2.2.2.2.2.2.2.2.2.2.2.2.2.2.2.1))).trans (hHeld.2.2.2.2.2.2.2.2.2.2.2.2.2.2.2.1)
        have HS16_ := (hb.cell (World.block_lt_of_cell? _ _ (hHeld.2.2.2.2.2.2.2.2.2.2.2.2.2.2.2.2.1))).trans (hHeld.2.2.2.2.2.2.2.2.2.2.2.2.2.2.2.2.1)
        have HS17_ := (hb.cell (World.block_lt_of_cell? _ _ (hHeld.2.2.2.2.2.2.2.2.2.2.2.2.2.2.2.2.2.1))).trans (hHeld.2.2.2.2.2.2.2.2.2.2.2.2.2.2.2.2.2.1)
        have HS18_ := (hb.cell (World.block_lt_of_cell? _ _ (hHeld.2.2.2.2.2.2.2.2.2.2.2.2.2.2.2.2.2.2.1))).trans (hHeld.2.2.2.2.2.2.2.2.2.2.2.2.2.2.2.2.2.2.1)
        have HS19_ := (hb.cell (World.block_lt_of_cell? _ _ (hHeld.2.2.2.2.2.2.2.2.2.2.2.2.2.2.2.2.2.2.2.1))).trans (hHeld.2.2.2.2.2.2.2.2.2.2.2.2.2.2.2.2.2.2.2.1)
        have HS20_ := (hb.cell (World.block_lt_of_cell? _ _ (hHeld.2.2.2.2.2.2.2.2.2.2.2.2.2.2.2.2.2.2.2.2))).trans (hHeld.2.2.2.2.2.2.2.2.2.2.2.2.2.2.2.2.2.2.2.2)
        clear hg_ hnew_
        (first | rw [← Ny299.out] at ho72 | (simp only [Int.reduceToNat] at ho72; rw [← Ny299.out] at ho72))
        replace HO_270001 := Aside0.mk (rB3 HO_270001.out hb)
        have HO301 := Aside0.mk (Kd.R_lower (Kd.R_new' (Kd.R_new' ho72 (Kd.R_lt HO_4.out)) (Kd.R_lt HO290.out)) (eZ3 HB.out))
        replace HO_4 := Aside0.mk (Kd.R_elder' HO_4.out (Kd.R_base ho72) hb)
        replace HO290 := Aside0.mk (Kd.R_elder' HO290.out (Kd.R_base ho72) hb)
        replace BK269 := kb_ BK269 hb
        replace HR280 := Aside0.mk (Kd.C_below (by repeat (first | (with_reducible exact HR280.out) | (with_reducible refine cA3 ?_ _) | (with_reducible refine cN3 ?_ _) | (with_reducible refine cD3 ?_) | exact HR280.out)) hb)
        replace HR287 := Aside0.mk (Kd.C_below (by repeat (first | (with_reducible exact HR287.out) | (with_reducible refine cA3 ?_ _) | (with_reducible refine cN3 ?_ _) | (with_reducible refine cD3 ?_) | exact HR287.out)) hb)
        replace HB := Aside0.mk (below_step HB.out hb)
        clear hb ho72
        refine hK.out _ _ ⟨ct_ BK269.out 0, ct_ BK269.out 1, HS2_, HS3_, HS4_, HS5_, HS6_, HS7_, HS8_, HS9_, HS10_, HS11_, HS12_, HS13_, HS14_, HS15_, HS16_, HS17_, HS18_, HS19_, HS20_⟩ (fun hHeld => ?_)
        clear hK K
        refine nm1_ (some 62) ?_
        refine one_ (i := 6) (N := some 55) z3_28 rfl rfl (one_of HT_.out (by kernel_rfl)) (by decide) (fun K hK => ?_)
        refine Kd.R_lit_step k31 _ 31 ?hg (N := 55) ?hd (xs := ([] : List (S31))) (inner := []) (ok := fun _ => True) (okp := fun _ => True) ?hr ?hp (fun _ hk => hk) trivial (Below.refl _ _) (Nat.le_refl _) (by simp) ?_; (case hd => rfl); (case hg => rfl); (case hr => first | (go_simp; done) | (go_simp; rfl)); (case hp => exact (Reps.none _ _))
        intro v293 w73 ho74 hb hg_ hnew_
        have HS2_ := (hb.cell (World.block_lt_of_cell? _ _ (hHeld.2.2.1))).trans (hHeld.2.2.1)
        have HS3_ := (hb.cell (World.block_lt_of_cell? _ _ (hHeld.2.2.2.1))).trans (hHeld.2.2.2.1)
        have HS4_ := (hb.cell (World.block_lt_of_cell? _ _ (hHeld.2.2.2.2.1))).trans (hHeld.2.2.2.2.1)
        have HS5_ := (hb.cell (World.block_lt_of_cell? _ _ (hHeld.2.2.2.2.2.1))).trans (hHeld.2.2.2.2.2.1)
        have HS6_ := (hb.cell (World.block_lt_of_cell? _ _ (hHeld.2.2.2.2.2.2.1))).trans (hHeld.2.2.2.2.2.2.1)
        have HS7_ := (hb.cell (World.block_lt_of_cell? _ _ (hHeld.2.2.2.2.2.2.2.1))).trans (hHeld.2.2.2.2.2.2.2.1)
        have HS8_ := (hb.cell (World.block_lt_of_cell? _ _ (hHeld.2.2.2.2.2.2.2.2.1))).trans (hHeld.2.2.2.2.2.2.2.2.1)
        have HS9_ := (hb.cell (World.block_lt_of_cell? _ _ (hHeld.2.2.2.2.2.2.2.2.2.1))).trans (hHeld.2.2.2.2.2.2.2.2.2.1)
        have HS10_ := (hb.cell (World.block_lt_of_cell? _ _ (hHeld.2.2.2.2.2.2.2.2.2.2.1))).trans (hHeld.2.2.2.2.2.2.2.2.2.2.1)
        have HS11_ := (hb.cell (World.block_lt_of_cell? _ _ (hHeld.2.2.2.2.2.2.2.2.2.2.2.1))).trans (hHeld.2.2.2.2.2.2.2.2.2.2.2.1)
        have HS12_ := (hb.cell (World.block_lt_of_cell? _ _ (hHeld.2.2.2.2.2.2.2.2.2.2.2.2.1))).trans (hHeld.2.2.2.2.2.2.2.2.2.2.2.2.1)
        have HS13_ := (hb.cell (World.block_lt_of_cell? _ _ (hHeld.2.2.2.2.2.2.2.2.2.2.2.2.2.1))).trans (hHeld.2.2.2.2.2.2.2.2.2.2.2.2.2.1)
        have HS14_ := (hb.cell (World.block_lt_of_cell? _ _ (hHeld.2.2.2.2.2.2.2.2.2.2.2.2.2.2.1))).trans (hHeld.2.2.2.2.2.2.2.2.2.2.2.2.2.2.1)
        have HS15_ := (hb.cell (World.block_lt_of_cell? _ _ (hHeld.2.2.2.2.2.2.2.2.2.2.2.2.2.2.2.1))).trans (hHeld.2.2.2.2.2.2.2.2.2.2.2.2.2.2.2.1)
        have HS16_ := (hb.cell (World.block_lt_of_cell? _ _ (hHeld.2.2.2.2.2.2.2.2.2.2.2.2.2.2.2.2.1))).trans (hHeld.2.2.2.2.2.2.2.2.2.2.2.2.2.2.2.2.1)
        have HS17_ := (hb.cell (World.block_lt_of_cell? _ _ (hHeld.2.2.2.2.2.2.2.2.2.2.2.2.2.2.2.2.2.1))).trans (hHeld.2.2.2.2.2.2.2.2.2.2.2.2.2.2.2.2.2.1)
        have HS18_ := (hb.cell (World.block_lt_of_cell? _ _ (hHeld.2.2.2.2.2.2.2.2.2.2.2.2.2.2.2.2.2.2.1))).trans (hHeld.2.2.2.2.2.2.2.2.2.2.2.2.2.2.2.2.2.2.1)
        have HS19_ := (hb.cell (World.block_lt_of_cell? _ _ (hHeld.2.2.2.2.2.2.2.2.2.2.2.2.2.2.2.2.2.2.2.1))).trans (hHeld.2.2.2.2.2.2.2.2.2.2.2.2.2.2.2.2.2.2.2.1)
        have HS20_ := (hb.cell (World.block_lt_of_cell? _ _ (hHeld.2.2.2.2.2.2.2.2.2.2.2.2.2.2.2.2.2.2.2.2))).trans (hHeld.2.2.2.2.2.2.2.2.2.2.2.2.2.2.2.2.2.2.2.2)
        clear hg_ hnew_
        (first | rw [← Ny292.out] at ho74 | (simp only [Int.reduceToNat] at ho74; rw [← Ny292.out] at ho74))
        replace HO_270001 := Aside0.mk (rB3 HO_270001.out hb)
        have HO294 := Aside0.mk (Kd.R_lower (Kd.R_new' (Kd.R_new' (Kd.R_new' ho74 (Kd.R_lt HO_4.out)) (Kd.R_lt HO290.out)) (Kd.R_lt HO301.out)) (eZ3 HB.out))
        replace HO_4 := Aside0.mk (Kd.R_elder' HO_4.out (Kd.R_base ho74) hb)
        replace HO290 := Aside0.mk (Kd.R_elder' HO290.out (Kd.R_base ho74) hb)
        replace HO301 := Aside0.mk (Kd.R_elder' HO301.out (Kd.R_base ho74) hb)
        replace BK269 := kb_ BK269 hb
        replace HR280 := Aside0.mk (Kd.C_below (by repeat (first | (with_reducible exact HR280.out) | (with_reducible refine cA3 ?_ _) | (with_reducible refine cN3 ?_ _) | (with_reducible refine cD3 ?_) | exact HR280.out)) hb)
        replace HR287 := Aside0.mk (Kd.C_below (by repeat (first | (with_reducible exact HR287.out) | (with_reducible refine cA3 ?_ _) | (with_reducible refine cN3 ?_ _) | (with_reducible refine cD3 ?_) | exact HR287.out)) hb)
        replace HB := Aside0.mk (below_step HB.out hb)
        clear hb ho74
        refine hK.out _ _ ⟨ct_ BK269.out 0, ct_ BK269.out 1, HS2_, HS3_, HS4_, HS5_, HS6_, HS7_, HS8_, HS9_, HS10_, HS11_, HS12_, HS13_, HS14_, HS15_, HS16_, HS17_, HS18_, HS19_, HS20_⟩ (fun hHeld => ?_)
        clear hK K
        refine nm1_ (some 55) ?_
        refine one_ (i := 8) (N := some 57) z3_24 rfl rfl (one_of HT_.out (by kernel_rfl)) (by decide) (fun K hK => ?_)
        refine Kd.R_append_rows_step k31 (w0 := w) w.heap.size (by rfl) (.tmp 55) (.tmp 56) 26 31 (.agg #[(.int .i64 0), (.int .i64 0), (.int .i64 0)]) 24 rfl Try.underlying26 info31 rfl (by decide) (by omega) v293 y292 t266 _ _ _ (fun k_ => some k_ ≠ (.slice (some ad298) t266.length co10 : Value).ownBlock ∧ some k_ ≠ (.slice Ao68 y288.length co68 : Value).ownBlock ∧ some k_ ≠ (v300 : Value).ownBlock) (fun _ => False) rfl rfl ?aO ?aR (fun _ _ h => h) (fun _ h => h.elim) ?aF ?aB ?aS ?aL ?_
        (case aR => repeat (first | exact (rR3 HO_4.out).2.2 | (with_reducible refine cA3 ?_ _) | (with_reducible refine cN3 ?_ _) | (with_reducible refine cD3 ?_)))
        (case aB => exact HB.out)
        (case aF => exact (fun k_ hk => ⟨Kd.fresh' (Kd.R_lt HO_4.out) k_ hk, Kd.fresh' (Kd.R_lt HO290.out) k_ hk, Kd.fresh' (Kd.R_lt HO301.out) k_ hk⟩))
        (case aO => exact (by (with_reducible repeat (first | apply rA3 | apply rN3 | apply rD3)); exact Kd.R_mono HO294.out (fun _ hk => by first | exact ⟨hk.1.1.2, ⟨hk.1.2, hk.2⟩⟩ | trivial | simp_all)))
        (case aS => exact (eZ3 HB.out))
        (case aL => have := LMc32.out; omega)
        intro v296 w75 ho hb hg hat
        have HS2_ := cga_ hg (hHeld.2.2.1) HO294.out.1
        have HS3_ := cga_ hg (hHeld.2.2.2.1) HO294.out.1
        have HS4_ := cga_ hg (hHeld.2.2.2.2.1) HO294.out.1
        have HS5_ := cga_ hg (hHeld.2.2.2.2.2.1) HO294.out.1
        have HS6_ := cga_ hg (hHeld.2.2.2.2.2.2.1) HO294.out.1
        have HS7_ := cga_ hg (hHeld.2.2.2.2.2.2.2.1) HO294.out.1
        have HS8_ := cg_ hg (hHeld.2.2.2.2.2.2.2.2.1) (ry_ hg HO_270001.out HO294.out (by decide) rfl)
        have HS9_ := cg_ hg (hHeld.2.2.2.2.2.2.2.2.2.1) (ry_ hg HO_270001.out HO294.out (by decide) rfl)
        have HS10_ := cg_ hg (hHeld.2.2.2.2.2.2.2.2.2.2.1) (ry_ hg HO_270001.out HO294.out (by decide) rfl)
        have HS11_ := cg_ hg (hHeld.2.2.2.2.2.2.2.2.2.2.2.1) (ry_ hg HO_270001.out HO294.out (by decide) rfl)
        have HS12_ := cg_ hg (hHeld.2.2.2.2.2.2.2.2.2.2.2.2.1) (ry_ hg HO_270001.out HO294.out (by decide) rfl)
        have HS13_ := cga_ hg (hHeld.2.2.2.2.2.2.2.2.2.2.2.2.2.1) HO294.out.1
        have HS14_ := cga_ hg (hHeld.2.2.2.2.2.2.2.2.2.2.2.2.2.2.1) HO294.out.1
        have HS15_ := cga_ hg (hHeld.2.2.2.2.2.2.2.2.2.2.2.2.2.2.2.1) HO294.out.1
        have HS16_ := cg_ hg (hHeld.2.2.2.2.2.2.2.2.2.2.2.2.2.2.2.2.1) (ry_ hg HO_270001.out HO294.out (by decide) rfl)
        have HS17_ := cg_ hg (hHeld.2.2.2.2.2.2.2.2.2.2.2.2.2.2.2.2.2.1) (ry_ hg HO_270001.out HO294.out (by decide) rfl)
        have HS18_ := cg_ hg (hHeld.2.2.2.2.2.2.2.2.2.2.2.2.2.2.2.2.2.2.1) (ry_ hg HO_270001.out HO294.out (by decide) rfl)
        have HS19_ := cg_ hg (hHeld.2.2.2.2.2.2.2.2.2.2.2.2.2.2.2.2.2.2.2.1) (ry_ hg HO_270001.out HO294.out (by decide) rfl)
        have HS20_ := cg_ hg (hHeld.2.2.2.2.2.2.2.2.2.2.2.2.2.2.2.2.2.2.2.2) (ry_ hg HO_270001.out HO294.out (by decide) rfl)
        rw [← Ny295.out] at ho
        replace HO_270001 := Aside0.mk (Kd.R_over' HO_270001.out (Kd.R_typed HO294.out) (by decide) hg)
        replace BK269 := Aside0.mk (blk_grown (g := gb269) (o := .cells #[.int .i64 t262, .slice (some ad307) t263.length co9] 25 (0, 0)) BK269.out hg (Kd.R_ne HO294.out BK269.out (by decide)))
        replace HO290 := Aside0.mk (Kd.R_after (ok := (fun k_ => some k_ ≠ (.slice (some ad298) t266.length co10 : Value).ownBlock ∧ some k_ ≠ (v300 : Value).ownBlock)) HO290.out hg hat)
        replace HO301 := Aside0.mk (Kd.R_after (ok := (fun k_ => some k_ ≠ (.slice (some ad298) t266.length co10 : Value).ownBlock ∧ some k_ ≠ (.slice Ao68 y288.length co68 : Value).ownBlock)) (by (with_reducible repeat (first | apply rA3 | apply rN3 | apply rD3)); exact Kd.R_mono HO301.out (fun _ hk => by first | exact ⟨⟨hk.1.1.2, hk.1.2⟩, hk.2⟩ | trivial | simp_all)) hg hat)
        replace HB := Aside0.mk (hb)
        replace HR280 := Aside0.mk ((show Kd.C k31 w75 (some ad298) y277.length y277 from by rw [Ny277.out]; exact Kd.C_take (m := (x6_2 : Int).toNat) ((rR3 (Kd.R_after (ok := (fun k_ => some k_ ≠ (.slice Ao68 y288.length co68 : Value).ownBlock ∧ some k_ ≠ (v300 : Value).ownBlock)) (by (with_reducible repeat (first | apply rA3 | apply rN3 | apply rD3)); exact Kd.R_mono HO_4.out (fun _ hk => by first | exact ⟨⟨hk.1.1.2, hk.1.2⟩, hk.2⟩ | trivial | simp_all)) hg hat)).2.2) KL62.out))
        replace HR287 := Aside0.mk ((show Kd.C k31 w75 A63 y284.length y284 from by rw [Ny284.out, KA63.out]; exact Kd.C_drop (m := ((ji26) : Int).toNat) (c := co10) ((rR3 (Kd.R_after (ok := (fun k_ => some k_ ≠ (.slice Ao68 y288.length co68 : Value).ownBlock ∧ some k_ ≠ (v300 : Value).ownBlock)) (by (with_reducible repeat (first | apply rA3 | apply rN3 | apply rD3)); exact Kd.R_mono HO_4.out (fun _ hk => by first | exact ⟨⟨hk.1.1.2, hk.1.2⟩, hk.2⟩ | trivial | simp_all)) hg hat)).2.2) KL63.out ((rR3 (Kd.R_after (ok := (fun k_ => some k_ ≠ (.slice Ao68 y288.length co68 : Value).ownBlock ∧ some k_ ≠ (v300 : Value).ownBlock)) (by (with_reducible repeat (first | apply rA3 | apply rN3 | apply rD3)); exact Kd.R_mono HO_4.out (fun _ hk => by first | exact ⟨⟨hk.1.1.2, hk.1.2⟩, hk.2⟩ | trivial | simp_all)) hg hat)).2.1)))
        replace HO_4 := Aside0.mk (Kd.R_after (ok := (fun k_ => some k_ ≠ (.slice Ao68 y288.length co68 : Value).ownBlock ∧ some k_ ≠ (v300 : Value).ownBlock)) (by (with_reducible repeat (first | apply rA3 | apply rN3 | apply rD3)); exact Kd.R_mono HO_4.out (fun _ hk => by first | exact ⟨⟨hk.1.1.2, hk.1.2⟩, hk.2⟩ | trivial | simp_all)) hg hat)
        have HO297 := Aside0.mk (ho)
        clear HO294 ho hb hg hat
        refine hK.out _ _ ⟨ct_ BK269.out 0, ct_ BK269.out 1, HS2_, HS3_, HS4_, HS5_, HS6_, HS7_, HS8_, HS9_, HS10_, HS11_, HS12_, HS13_, HS14_, HS15_, HS16_, HS17_, HS18_, HS19_, HS20_⟩ (fun hHeld => ?_)
        clear hK K
        refine nm1_ (some 57) ?_
        exact norm_ (by simp only [putAll, Act.put, List.setIfInBounds_toArray, List.set_cons_zero, List.set_cons_succ]) (hCont (v293, v296, v300) _ ⟨hHeld, (by (with_reducible repeat (first | apply rA3 | apply rN3 | apply rD3)); exact Kd.R_mono HO290.out (fun _ hk => by first | exact ⟨hk.2, ⟨hk.1.2, hk.1.1⟩⟩ | trivial | simp_all)), (by (with_reducible repeat (first | apply rA3 | apply rN3 | apply rD3)); exact Kd.R_mono HO297.out (fun _ hk => by first | exact ⟨hk.2.1, ⟨hk.2.2, hk.1⟩⟩ | trivial | simp_all)), (by (with_reducible repeat (first | apply rA3 | apply rN3 | apply rD3)); exact Kd.R_mono HO301.out (fun _ hk => by first | exact ⟨hk.1.2, ⟨hk.2, hk.1.1⟩⟩ | trivial | simp_all)), HO_270001.out, (by (with_reducible repeat (first | apply rA3 | apply rN3 | apply rD3)); exact Kd.R_mono HO_4.out (fun _ hk => by first | exact ⟨hk.1.1, ⟨hk.2, hk.1.2⟩⟩ | trivial | simp_all)), BK269.out, HB.out⟩)
      rintro ⟨v293, v296, v300⟩ w76 ⟨hS_, h0_, h1_, h2_, h3_, h4_, h5_, h6_⟩
      replace HO290 : Aside0 (Kd.R k31 31 w76 w.heap.size (fun k_ => some k_ ≠ (v296 : Value).ownBlock ∧ some k_ ≠ (v300 : Value).ownBlock ∧ some k_ ≠ (.slice (some ad298) t266.length co10 : Value).ownBlock) (.slice Ao68 y288.length co68) y288) := ⟨h0_⟩
      have HO297 : Aside0 (Kd.R k31 31 w76 w.heap.size (fun k_ => some k_ ≠ (.slice Ao68 y288.length co68 : Value).ownBlock ∧ some k_ ≠ (v300 : Value).ownBlock ∧ some k_ ≠ (.slice (some ad298) t266.length co10 : Value).ownBlock) v296 y295) := ⟨h1_⟩
      have HO301 : Aside0 (Kd.R k31 31 w76 w.heap.size (fun k_ => some k_ ≠ (.slice Ao68 y288.length co68 : Value).ownBlock ∧ some k_ ≠ (v296 : Value).ownBlock ∧ some k_ ≠ (.slice (some ad298) t266.length co10 : Value).ownBlock) v300 y299) := ⟨h2_⟩
      replace HO_270001 : Aside0 (Kd.R k33 33 w76 w.heap.size (fun _ => True) (.slice (some ad307) t263.length co9) t263) := ⟨h3_⟩
      replace HO_4 : Aside0 (Kd.R k31 31 w76 w.heap.size (fun k_ => some k_ ≠ (.slice Ao68 y288.length co68 : Value).ownBlock ∧ some k_ ≠ (v296 : Value).ownBlock ∧ some k_ ≠ (v300 : Value).ownBlock) (.slice (some ad298) t266.length co10) t266) := ⟨h4_⟩
      replace BK269 : Aside0 (w76.heap[gb269]? = some (.cells #[.int .i64 t262, .slice (some ad307) t263.length co9] 25 (0, 0))) := ⟨h5_⟩
      replace HB : Aside0 (Below w.heap.size w w76) := ⟨h6_⟩
      clear HR280 HR287 h0_ h1_ h2_ h3_ h4_ h5_ h6_
      have hHeld : w76.cell? ⟨gb269, 0, none⟩ = some (.int .i64 t262) ∧ w76.cell? ⟨gb269, 1, none⟩ = some (.slice (some ad307) t263.length co9) ∧ w76.cell? (ad298.add ((x6_2).toNat * 3)) = some (.int .i64 ((rd_T31 t266 x6_2).f0)) ∧ w76.cell? ⟨(ad298.add ((x6_2).toNat * 3)).block, (ad298.add ((x6_2).toNat * 3)).off + 1, none⟩ = some (.int .i64 ((rd_T31 t266 x6_2).f1)) ∧ w76.cell? ⟨(ad298.add ((x6_2).toNat * 3)).block, (ad298.add ((x6_2).toNat * 3)).off + 2, none⟩ = some (.int .i64 ((rd_T31 t266 x6_2).f2)) ∧ w76.cell? (ad298.add ((x6_2).toNat * 3)) = some (.int .i64 ((rd_T31 t266 x6_2).f0)) ∧ w76.cell? ⟨(ad298.add ((x6_2).toNat * 3)).block, (ad298.add ((x6_2).toNat * 3)).off + 1, none⟩ = some (.int .i64 ((rd_T31 t266 x6_2).f1)) ∧ w76.cell? ⟨(ad298.add ((x6_2).toNat * 3)).block, (ad298.add ((x6_2).toNat * 3)).off + 2, none⟩ = some (.int .i64 ((rd_T31 t266 x6_2).f2)) ∧ w76.cell? (ad307.add ((((rd_T31 t266 x6_2).f0)).toNat * 5)) = some (.int .i64 ((rd_T33 t263 ((rd_T31 t266 x6_2).f0)).f0)) ∧ w76.cell? ⟨(ad307.add ((((rd_T31 t266 x6_2).f0)).toNat * 5)).block, (ad307.add ((((rd_T31 t266 x6_2).f0)).toNat * 5)).off + 1, none⟩ = some (.int .i64 ((rd_T33 t263 ((rd_T31 t266 x6_2).f0)).f1)) ∧ w76.cell? ⟨(ad307.add ((((rd_T31 t266 x6_2).f0)).toNat * 5)).block, (ad307.add ((((rd_T31 t266 x6_2).f0)).toNat * 5)).off + 2, none⟩ = some (.int .i64 ((rd_T33 t263 ((rd_T31 t266 x6_2).f0)).f2)) ∧ w76.cell? ⟨(ad307.add ((((rd_T31 t266 x6_2).f0)).toNat * 5)).block, (ad307.add ((((rd_T31 t266 x6_2).f0)).toNat * 5)).off + 3, none⟩ = some (.int .i64 ((rd_T33 t263 ((rd_T31 t266 x6_2).f0)).f3)) ∧ w76.cell? ⟨(ad307.add ((((rd_T31 t266 x6_2).f0)).toNat * 5)).block, (ad307.add ((((rd_T31 t266 x6_2).f0)).toNat * 5)).off + 4, none⟩ = some (.int .i64 ((rd_T33 t263 ((rd_T31 t266 x6_2).f0)).f4)) ∧ w76.cell? (ad298.add ((x6_2).toNat * 3)) = some (.int .i64 ((rd_T31 t266 x6_2).f0)) ∧ w76.cell? ⟨(ad298.add ((x6_2).toNat * 3)).block, (ad298.add ((x6_2).toNat * 3)).off + 1, none⟩ = some (.int .i64 ((rd_T31 t266 x6_2).f1)) ∧ w76.cell? ⟨(ad298.add ((x6_2).toNat * 3)).block, (ad298.add ((x6_2).toNat * 3)).off + 2, none⟩ = some (.int .i64 ((rd_T31 t266 x6_2).f2)) ∧ w76.cell? (ad307.add ((((rd_T31 t266 x6_2).f1)).toNat * 5)) = some (.int .i64 ((rd_T33 t263 ((rd_T31 t266 x6_2).f1)).f0)) ∧ w76.cell? ⟨(ad307.add ((((rd_T31 t266 x6_2).f1)).toNat * 5)).block, (ad307.add ((((rd_T31 t266 x6_2).f1)).toNat * 5)).off + 1, none⟩ = some (.int .i64 ((rd_T33 t263 ((rd_T31 t266 x6_2).f1)).f1)) ∧ w76.cell? ⟨(ad307.add ((((rd_T31 t266 x6_2).f1)).toNat * 5)).block, (ad307.add ((((rd_T31 t266 x6_2).f1)).toNat * 5)).off + 2, none⟩ = some (.int .i64 ((rd_T33 t263 ((rd_T31 t266 x6_2).f1)).f2)) ∧ w76.cell? ⟨(ad307.add ((((rd_T31 t266 x6_2).f1)).toNat * 5)).block, (ad307.add ((((rd_T31 t266 x6_2).f1)).toNat * 5)).off + 3, none⟩ = some (.int .i64 ((rd_T33 t263 ((rd_T31 t266 x6_2).f1)).f3)) ∧ w76.cell? ⟨(ad307.add ((((rd_T31 t266 x6_2).f1)).toNat * 5)).block, (ad307.add ((((rd_T31 t266 x6_2).f1)).toNat * 5)).off + 4, none⟩ = some (.int .i64 ((rd_T33 t263 ((rd_T31 t266 x6_2).f1)).f4)) := hS_
      obtain ⟨Ao78, co78, eo78⟩ := Kd.R_slice HO301.out
      (first | subst eo78 | (injection eo78 with f1_ f2_ f3_; have f4_ := f1_.symm; have f5_ := f3_.symm; clear f1_ f2_ f3_; subst f4_; subst f5_))
      refine nm2_ ?_
      refine one_ (i := 14) (N := some 63) z3_29 rfl rfl (one_of HT_.out (by kernel_rfl)) (by decide) (fun K hK => ?_)
      refine Kd.R_append_rows_step k31 (w0 := w) w.heap.size (by rfl) (.tmp 57) (.tmp 62) 26 31 (.agg #[(.int .i64 0), (.int .i64 0), (.int .i64 0)]) 24 rfl Try.underlying26 info31 rfl (by decide) (by omega) v296 y295 y299 _ _ _ (fun k_ => some k_ ≠ (.slice (some ad298) t266.length co10 : Value).ownBlock ∧ some k_ ≠ (.slice Ao68 y288.length co68 : Value).ownBlock ∧ some k_ ≠ (.slice Ao78 y299.length co78 : Value).ownBlock) (fun _ => False) rfl rfl ?aO ?aR (fun _ _ h => h) (fun _ h => h.elim) ?aF ?aB ?aS ?aL ?_
      (case aR => repeat (first | exact (rR3 HO301.out).2.2 | (with_reducible refine cA3 ?_ _) | (with_reducible refine cN3 ?_ _) | (with_reducible refine cD3 ?_)))
      (case aB => exact HB.out)
      (case aF => exact (fun k_ hk => ⟨Kd.fresh' (Kd.R_lt HO_4.out) k_ hk, Kd.fresh' (Kd.R_lt HO290.out) k_ hk, Kd.fresh' (Kd.R_lt HO301.out) k_ hk⟩))
      (case aO => exact (by (with_reducible repeat (first | apply rA3 | apply rN3 | apply rD3)); exact Kd.R_mono HO297.out (fun _ hk => by first | exact ⟨hk.2.2, ⟨hk.1, hk.2.1⟩⟩ | trivial | simp_all)))
      (case aS => exact (eZ3 HB.out))
      (case aL => have := LMc33.out; omega)
      intro v303 w77 ho hb hg hat
      have HS2_ := cga_ hg (hHeld.2.2.1) HO297.out.1
      have HS3_ := cga_ hg (hHeld.2.2.2.1) HO297.out.1
      have HS4_ := cga_ hg (hHeld.2.2.2.2.1) HO297.out.1
      have HS5_ := cga_ hg (hHeld.2.2.2.2.2.1) HO297.out.1
      have HS6_ := cga_ hg (hHeld.2.2.2.2.2.2.1) HO297.out.1
      have HS7_ := cga_ hg (hHeld.2.2.2.2.2.2.2.1) HO297.out.1
      have HS8_ := cg_ hg (hHeld.2.2.2.2.2.2.2.2.1) (ry_ hg HO_270001.out HO297.out (by decide) rfl)
      have HS9_ := cg_ hg (hHeld.2.2.2.2.2.2.2.2.2.1) (ry_ hg HO_270001.out HO297.out (by decide) rfl)
      have HS10_ := cg_ hg (hHeld.2.2.2.2.2.2.2.2.2.2.1) (ry_ hg HO_270001.out HO297.out (by decide) rfl)
      have HS11_ := cg_ hg (hHeld.2.2.2.2.2.2.2.2.2.2.2.1) (ry_ hg HO_270001.out HO297.out (by decide) rfl)
      have HS12_ := cg_ hg (hHeld.2.2.2.2.2.2.2.2.2.2.2.2.1) (ry_ hg HO_270001.out HO297.out (by decide) rfl)
      have HS13_ := cga_ hg (hHeld.2.2.2.2.2.2.2.2.2.2.2.2.2.1) HO297.out.1
      have HS14_ := cga_ hg (hHeld.2.2.2.2.2.2.2.2.2.2.2.2.2.2.1) HO297.out.1
      have HS15_ := cga_ hg (hHeld.2.2.2.2.2.2.2.2.2.2.2.2.2.2.2.1) HO297.out.1
      have HS16_ := cg_ hg (hHeld.2.2.2.2.2.2.2.2.2.2.2.2.2.2.2.2.1) (ry_ hg HO_270001.out HO297.out (by decide) rfl)
      have HS17_ := cg_ hg (hHeld.2.2.2.2.2.2.2.2.2.2.2.2.2.2.2.2.2.1) (ry_ hg HO_270001.out HO297.out (by decide) rfl)
      have HS18_ := cg_ hg (hHeld.2.2.2.2.2.2.2.2.2.2.2.2.2.2.2.2.2.2.1) (ry_ hg HO_270001.out HO297.out (by decide) rfl)
      have HS19_ := cg_ hg (hHeld.2.2.2.2.2.2.2.2.2.2.2.2.2.2.2.2.2.2.2.1) (ry_ hg HO_270001.out HO297.out (by decide) rfl)
      have HS20_ := cg_ hg (hHeld.2.2.2.2.2.2.2.2.2.2.2.2.2.2.2.2.2.2.2.2) (ry_ hg HO_270001.out HO297.out (by decide) rfl)
      rw [← Ny302.out] at ho
      replace HO_4 := Aside0.mk (Kd.R_after (ok := (fun k_ => some k_ ≠ (.slice Ao68 y288.length co68 : Value).ownBlock ∧ some k_ ≠ (.slice Ao78 y299.length co78 : Value).ownBlock)) (by (with_reducible repeat (first | apply rA3 | apply rN3 | apply rD3)); exact Kd.R_mono HO_4.out (fun _ hk => by first | exact ⟨⟨hk.1, hk.2.2⟩, hk.2.1⟩ | trivial | simp_all)) hg hat)
      replace HO_270001 := Aside0.mk (Kd.R_over' HO_270001.out (Kd.R_typed HO297.out) (by decide) hg)
      replace BK269 := Aside0.mk (blk_grown (g := gb269) (o := .cells #[.int .i64 t262, .slice (some ad307) t263.length co9] 25 (0, 0)) BK269.out hg (Kd.R_ne HO297.out BK269.out (by decide)))
      replace HO290 := Aside0.mk (Kd.R_after (ok := (fun k_ => some k_ ≠ (.slice (some ad298) t266.length co10 : Value).ownBlock ∧ some k_ ≠ (.slice Ao78 y299.length co78 : Value).ownBlock)) (by (with_reducible repeat (first | apply rA3 | apply rN3 | apply rD3)); exact Kd.R_mono HO290.out (fun _ hk => by first | exact ⟨⟨hk.2.2, hk.2.1⟩, hk.1⟩ | trivial | simp_all)) hg hat)
      replace HO301 := Aside0.mk (Kd.R_after (ok := (fun k_ => some k_ ≠ (.slice (some ad298) t266.length co10 : Value).ownBlock ∧ some k_ ≠ (.slice Ao68 y288.length co68 : Value).ownBlock)) (by (with_reducible repeat (first | apply rA3 | apply rN3 | apply rD3)); exact Kd.R_mono HO301.out (fun _ hk => by first | exact ⟨⟨hk.2.2, hk.1⟩, hk.2.1⟩ | trivial | simp_all)) hg hat)
      replace HB := Aside0.mk (hb)
      have HO304 := Aside0.mk (ho)
      clear HO297 ho hb hg hat
      obtain ⟨Ao79, co79, eo79⟩ := Kd.R_slice HO304.out
      (first | subst eo79 | (injection eo79 with f1_ f2_ f3_; have f4_ := f1_.symm; have f5_ := f3_.symm; clear f1_ f2_ f3_; subst f4_; subst f5_))
      refine hK.out _ _ ⟨ct_ BK269.out 0, ct_ BK269.out 1, HS2_, HS3_, HS4_, HS5_, HS6_, HS7_, HS8_, HS9_, HS10_, HS11_, HS12_, HS13_, HS14_, HS15_, HS16_, HS17_, HS18_, HS19_, HS20_⟩ (fun hHeld => ?_)
      clear hK K
      refine nm1_ (some 63) ?_
      refine one_ (i := 15) (N := some 64) z3_30 rfl rfl (one_of HT_.out (by kernel_rfl)) (by decide) (fun K hK => ?_)
      refine go_ Try.func5 #[.agg #[.int .i64 t262, .slice (some ad307) t263.length co9], .slice Ao79 y302.length co79] ?_
      with_reducible refine (impl_TurnsOk.calls k2 t262 _ _ t263 _ _ y302 false _ ?side1 ?side2 ?side3 ?side4 A34.out).mono ?_
      (case side1 => exact nc_ (rR3 HO_270001.out).2.2)
      (case side2 => exact (rR3 HO_270001.out).2.1)
      (case side3 => exact nc_ (rR3 HO304.out).2.2)
      (case side4 => exact (rR3 HO304.out).2.1)
      rintro e w80 ⟨rfl, hb⟩
      have HS2_ := (hb.cell (World.block_lt_of_cell? _ _ (hHeld.2.2.1))).trans (hHeld.2.2.1)
      have HS3_ := (hb.cell (World.block_lt_of_cell? _ _ (hHeld.2.2.2.1))).trans (hHeld.2.2.2.1)
      have HS4_ := (hb.cell (World.block_lt_of_cell? _ _ (hHeld.2.2.2.2.1))).trans (hHeld.2.2.2.2.1)
      have HS5_ := (hb.cell (World.block_lt_of_cell? _ _ (hHeld.2.2.2.2.2.1))).trans (hHeld.2.2.2.2.2.1)
      have HS6_ := (hb.cell (World.block_lt_of_cell? _ _ (hHeld.2.2.2.2.2.2.1))).trans (hHeld.2.2.2.2.2.2.1)
      have HS7_ := (hb.cell (World.block_lt_of_cell? _ _ (hHeld.2.2.2.2.2.2.2.1))).trans (hHeld.2.2.2.2.2.2.2.1)
      have HS8_ := (hb.cell (World.block_lt_of_cell? _ _ (hHeld.2.2.2.2.2.2.2.2.1))).trans (hHeld.2.2.2.2.2.2.2.2.1)
      have HS9_ := (hb.cell (World.block_lt_of_cell? _ _ (hHeld.2.2.2.2.2.2.2.2.2.1))).trans (hHeld.2.2.2.2.2.2.2.2.2.1)
      have HS10_ := (hb.cell (World.block_lt_of_cell? _ _ (hHeld.2.2.2.2.2.2.2.2.2.2.1))).trans (hHeld.2.2.2.2.2.2.2.2.2.2.1)
      have HS11_ := (hb.cell (World.block_lt_of_cell? _ _ (hHeld.2.2.2.2.2.2.2.2.2.2.2.1))).trans (hHeld.2.2.2.2.2.2.2.2.2.2.2.1)
      have HS12_ := (hb.cell (World.block_lt_of_cell? _ _ (hHeld.2.2.2.2.2.2.2.2.2.2.2.2.1))).trans (hHeld.2.2.2.2.2.2.2.2.2.2.2.2.1)
      have HS13_ := (hb.cell (World.block_lt_of_cell? _ _ (hHeld.2.2.2.2.2.2.2.2.2.2.2.2.2.1))).trans (hHeld.2.2.2.2.2.2.2.2.2.2.2.2.2.1)
      have HS14_ := (hb.cell (World.block_lt_of_cell? _ _ (hHeld.2.2.2.2.2.2.2.2.2.2.2.2.2.2.1))).trans (hHeld.2.2.2.2.2.2.2.2.2.2.2.2.2.2.1)
      have HS15_ := (hb.cell (World.block_lt_of_cell? _ _ (hHeld.2.2.2.2.2.2.2.2.2.2.2.2.2.2.2.1))).trans (hHeld.2.2.2.2.2.2.2.2.2.2.2.2.2.2.2.1)
      have HS16_ := (hb.cell (World.block_lt_of_cell? _ _ (hHeld.2.2.2.2.2.2.2.2.2.2.2.2.2.2.2.2.1))).trans (hHeld.2.2.2.2.2.2.2.2.2.2.2.2.2.2.2.2.1)
      have HS17_ := (hb.cell (World.block_lt_of_cell? _ _ (hHeld.2.2.2.2.2.2.2.2.2.2.2.2.2.2.2.2.2.1))).trans (hHeld.2.2.2.2.2.2.2.2.2.2.2.2.2.2.2.2.2.1)
      have HS18_ := (hb.cell (World.block_lt_of_cell? _ _ (hHeld.2.2.2.2.2.2.2.2.2.2.2.2.2.2.2.2.2.2.1))).trans (hHeld.2.2.2.2.2.2.2.2.2.2.2.2.2.2.2.2.2.2.1)
      have HS19_ := (hb.cell (World.block_lt_of_cell? _ _ (hHeld.2.2.2.2.2.2.2.2.2.2.2.2.2.2.2.2.2.2.2.1))).trans (hHeld.2.2.2.2.2.2.2.2.2.2.2.2.2.2.2.2.2.2.2.1)
      have HS20_ := (hb.cell (World.block_lt_of_cell? _ _ (hHeld.2.2.2.2.2.2.2.2.2.2.2.2.2.2.2.2.2.2.2.2))).trans (hHeld.2.2.2.2.2.2.2.2.2.2.2.2.2.2.2.2.2.2.2.2)
      refine ⟨_, rfl, ?_⟩
      replace HO_4 := Aside0.mk (rB3 HO_4.out hb)
      replace HO_270001 := Aside0.mk (rB3 HO_270001.out hb)
      replace HO290 := Aside0.mk (rB3 HO290.out hb)
      replace HO301 := Aside0.mk (rB3 HO301.out hb)
      replace HO304 := Aside0.mk (rB3 HO304.out hb)
      replace BK269 := kb_ BK269 hb
      replace HB := Aside0.mk (below_step HB.out hb)
      (try clear hb)
      (try clear hb2)
      (try clear hk)
      (try clear hi)
      refine hK.out _ _ ⟨ct_ BK269.out 0, ct_ BK269.out 1, HS2_, HS3_, HS4_, HS5_, HS6_, HS7_, HS8_, HS9_, HS10_, HS11_, HS12_, HS13_, HS14_, HS15_, HS16_, HS17_, HS18_, HS19_, HS20_⟩ (fun hHeld => ?_)
      clear hK K
      refine nm1_ (some 64) ?_
      refine pu_ 16 65 z3_31 HT_.out ?_
      refine pu_ 17 66 z3_32 HT_.out ?_
      refine pu_ 18 67 z3_33 HT_.out ?_
      refine pu_ 20 69 z3_55 HT_.out ?_
      refine pu_ 21 70 z3_56 HT_.out ?_
      refine pu_ 22 71 z3_57 HT_.out ?_
      refine pu_ 23 72 z3_58 HT_.out ?_
      refine pu_ 28 77 z3_59 HT_.out ?_
      refine pu_ 30 79 z3_60 HT_.out ?_
      refine pu_ 31 80 z3_61 HT_.out ?_
      refine pu_ 32 81 z3_62 HT_.out ?_
      refine pu_ 33 82 z3_63 HT_.out ?_
      refine tk_ 19 68 z3_64 HT_.out HW_.out hHeld ?_
      refine tk_ 24 73 z3_65 HT_.out HW_.out hHeld ?_
      refine pu_ 25 74 z3_66 HT_.out ?_
      refine pu_ 26 75 z3_67 HT_.out ?_
      refine tk_ 27 76 z3_68 HT_.out HW_.out hHeld ?_
      refine tk_ 29 78 z3_48 HT_.out HW_.out hHeld ?_
      refine tk_ 34 83 z3_49 HT_.out HW_.out hHeld ?_
      refine pu_ 35 84 z3_50 HT_.out ?_
      refine pu_ 36 85 z3_51 HT_.out ?_
      refine tk_ 37 86 z3_52 HT_.out HW_.out hHeld ?_
      refine pu_ 38 87 z3_53 HT_.out ?_
      refine pu_ 39 88 z3_54 HT_.out ?_
      refine done_ (done_of HT_.out (by kernel_rfl)) ?_
      try go_wp2
      go_roundg k2
      case measure => have := HJ4.out; have := HK2.out; omega
      case rel => exact ⟨(ji26), (by first | rfl | (simp; done) | (simp only [← hji26] <;> (first | rfl | simp)) | (simp [*]; done) | (simp [*]; exact Option.some.inj (Eq.trans (Eq.symm (Aside0.out (by assumption))) (Aside0.out (by assumption))))), H', ⟨by have := HJ4.out; have := HK2.out; omega⟩, ⟨by (with_reducible repeat (first | apply rA3 | apply rN3 | apply rD3)); exact Kd.R_mono HO_4.out (fun _ hk => trivial)⟩, ⟨nr_ HO_270001.out⟩, ⟨nb_ BK269.out⟩, ⟨ne_ HB.out⟩⟩
/-- THE ONE PURE STATEMENT of laws_FnTurnsOk: yours. -/
def laws_FnTurnsOk.Pure : Prop := ∀ (l0 : List Int), l0.length ≤ maxLen → l0.length * 1 ≤ 140737488351232 → (∀ x ∈ l0, (Lit.int .u8 x).wf = true) → ∃ k, laws_FnTurnsOk.f k l0 = some true
theorem laws_FnTurnsOk.walk (P : laws_FnTurnsOk.Pure) (a0 : Option Addr) (len0 cap0 : Nat) (z0 : List Int) (w : World) (w0 : (a0 = none ∧ len0 = 0 ∧ cap0 = 0 ∧ z0 = []) ∨ ∃ x, a0 = some x ∧ len0 ≤ cap0 ∧ cap0 ≤ maxLen ∧ z0.length = cap0 ∧ (∀ i, i < z0.length → w.cell? (x.add i) = some (.int .u8 (z0.getD i 0))) ∧ ∀ n ∈ z0, (Lit.int .u8 n).wf = true) (y0 : len0 * 1 ≤ 140737488351232) :
    Calls Try.prog 3 #[.slice a0 len0 cap0] w fun e w' => e = .returned (.bool true) ∧ Below w.heap.size w w' := by
  obtain ⟨l0, rfl, hr0, hm0, hw0, hc0⟩ := ReadsInt.ofRowC w0
  obtain ⟨k, h⟩ := P l0 hm0 y0 hw0
  refine (laws_FnTurnsOk.calls k _ _ l0 true w (Kd.C_of_reads (d := (0 : Int)) (h1 := fun _ => rfl) hr0) hc0 h).mono ?_
  rintro e w' ⟨rfl, hd⟩
  exact ⟨rfl, hd⟩

end Go.Proofs.Ytahcomglicodlaa.Print
