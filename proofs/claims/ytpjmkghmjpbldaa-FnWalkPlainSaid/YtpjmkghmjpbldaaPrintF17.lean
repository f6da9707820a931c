-- Made by this session's own program (wip/patch_print.py, over the kit's print). Lean checks it.
import Derived.Test.YtpjmkghmjpbldaaPrint0
import Derived.Test.YtpjmkghmjpbldaaPrintB
import Derived.Test.YtpjmkghmjpbldaaPrintF43
import Derived.Test.YtpjmkghmjpbldaaPrintF47
import Derived.Test.YtpjmkghmjpbldaaPrintF50
import Derived.Test.YtpjmkghmjpbldaaPrintF55
import Derived.Test.YtpjmkghmjpbldaaPrintF56
import Derived.Test.YtpjmkghmjpbldaaPrintF57
namespace Go.Proofs.Ytpjmkghmjpbldaa.Print
open Go.RowKit Go.Proofs.YtpjmkghmjpbldaaW.PrintWords Go.Proofs.YtpjmkghmjpbldaaW.PrintLast Go.Proofs.YtpjmkghmjpbldaaW.PrintMore Go.Proofs.YtpjmkghmjpbldaaX
attribute [local go_sem] max2_int min2_int max_two min_two max_three min_three max_four min_four   -- for this text's walks alone
set_option linter.unusedVariables false
set_option linter.unusedSimpArgs false

abbrev z17_0 := bm_ 26 0
abbrev z17_1 := bm_ 26 1
abbrev z17_2 := bm_ 26 3
abbrev z17_3 := bm_ 26 7
abbrev z17_4 := bm_ 26 15
abbrev z17_5 := bm_ 26 31
abbrev z17_6 := bm_ 26 524287
abbrev z17_7 := bm_ 26 1048575
abbrev z17_8 := bm_ 26 2097151
abbrev z17_9 := bm_ 26 4194303
abbrev z17_10 := bm_ 26 8388607
abbrev z17_11 := bm_ 26 16777215
abbrev z17_12 := bm_ 26 33554431
abbrev z17_13 := bm_ 26 67108863
abbrev z17_14 := bm_ 8 0
abbrev z17_15 := bm_ 8 1
abbrev z17_16 := bm_ 8 3
abbrev z17_17 := bm_ 8 7
abbrev z17_18 := bm_ 8 15
abbrev z17_19 := bm_ 8 31
abbrev z17_20 := bm_ 8 63
abbrev z17_21 := bm_ 8 127
abbrev z17_22 := bm_ 8 255
abbrev z17_23 := bm_ 44 0
abbrev z17_24 := bm_ 44 2
abbrev z17_25 := bm_ 44 3
abbrev z17_26 := bm_ 44 7
abbrev z17_27 := bm_ 44 15
abbrev z17_28 := bm_ 44 31
abbrev z17_29 := bm_ 44 63
abbrev z17_30 := bm_ 44 191
abbrev z17_31 := bm_ 44 447
abbrev z17_32 := bm_ 44 511
abbrev z17_33 := bm_ 44 1023
abbrev z17_34 := bm_ 44 2047
abbrev z17_35 := bm_ 44 4095
abbrev z17_36 := bm_ 44 8191
abbrev z17_37 := bm_ 44 16383
abbrev z17_38 := bm_ 44 32767
abbrev z17_39 := bm_ 44 65535
abbrev z17_40 := bm_ 44 131071
abbrev z17_41 := bm_ 44 262143
abbrev z17_42 := bm_ 44 786431
abbrev z17_43 := bm_ 44 1835007
abbrev z17_44 := bm_ 44 3932159
abbrev z17_45 := bm_ 44 8126463
abbrev z17_46 := bm_ 44 16515071
abbrev z17_47 := bm_ 44 16777215
abbrev z17_48 := bm_ 44 33554431
abbrev z17_49 := bm_ 44 67108863
abbrev z17_50 := bm_ 44 134217727
abbrev z17_51 := bm_ 44 268435455
abbrev z17_52 := bm_ 44 805306367
abbrev z17_53 := bm_ 44 5100273663
abbrev z17_54 := bm_ 44 5368709119
abbrev z17_55 := bm_ 44 7516192767
abbrev z17_56 := bm_ 44 8589934591
abbrev z17_57 := bm_ 44 17179869183
abbrev z17_58 := bm_ 44 34359738367
abbrev z17_59 := bm_ 44 68719476735
abbrev z17_60 := bm_ 44 137438953471
abbrev z17_61 := bm_ 44 2199023255551
abbrev z17_62 := bm_ 44 4398046511103
abbrev z17_63 := bm_ 44 8796093022207
abbrev z17_64 := bm_ 44 17592186044415
abbrev z17_65 := bm_ 44 274877906943
abbrev z17_66 := bm_ 44 549755813887
abbrev z17_67 := bm_ 44 1099511627775
abbrev z17_68 := bm_ 44 536870911
abbrev z17_69 := bm_ 44 1073741823
abbrev z17_70 := bm_ 44 2147483647
abbrev z17_71 := bm_ 44 4294967295
abbrev z17_72 := bm_ 44 524287
abbrev z17_73 := bm_ 44 1048575
abbrev z17_74 := bm_ 44 2097151
abbrev z17_75 := bm_ 44 4194303
abbrev z17_76 := bm_ 44 8388607
abbrev rD17 := @Kd.R_drew
abbrev rR17 := @Kd.R_reads'
/-! ### laws_FnWalkPlain: function 17 -/
mutual
def laws_FnWalkPlain.j0 : Nat → List Int → List Int → Bool → Int → List (S37) → Option (Bool)
  | 0, _, _, _, _, _ => none
  | k + 1, x4, x5, x31, x1109000, x1109001 => if x31 = true then ((spec_WalkPlain.f k x1109000 x1109001 x4).bind fun t1117 => ((laws_wkInts.f k x5 t1117).bind fun t1120 => (some t1120))) else (if (x5.length : Int) = 0 then (if (x4.length : Int) = 0 then (some true) else (if 0 < (x4.length : Int) then (if 0 ≤ (rd x4 0) then (if (rd x4 0) < (x1109001.length : Int) then (if 0 ≤ (wrap64 ((x4.length : Int) - 1)) then (if (wrap64 ((x4.length : Int) - 1)) < (x4.length : Int) then (if 0 ≤ (rd x4 (wrap64 ((x4.length : Int) - 1))) then (if (rd x4 (wrap64 ((x4.length : Int) - 1))) < (x1109001.length : Int) then (some (((rd_T37 x1109001 (rd x4 0)).f0) == ((rd_T37 x1109001 (rd x4 (wrap64 ((x4.length : Int) - 1)))).f1))) else (none)) else (none)) else (none)) else (none)) else (none)) else (none)) else (none))) else ((impl_WalkNodes.f k x1109000 x1109001 x5).bind fun t1125 => (laws_FnWalkPlain.l0 k x4 x5 t1125 0 x1109000 x1109001)))
def laws_FnWalkPlain.l0 : Nat → List Int → List Int → List Int → Int → Int → List (S37) → Option (Bool)
  | 0, _, _, _, _, _, _ => none
  | k + 1, x4, x5, x6, x7, x1109000, x1109001 => if x7 < (x6.length : Int) then (if 0 ≤ x7 then (if x7 ≤ (x6.length : Int) then ((laws_wkIn.f k (x6.take (x7 : Int).toNat) (rd x6 x7)).bind fun t1133 => (if t1133 = true then (some false) else (laws_FnWalkPlain.l0 k x4 x5 x6 (wrap64 (x7 + 1)) x1109000 x1109001))) else (none)) else (none)) else ((impl_WalkNodes.f k x1109000 x1109001 x4).bind fun t1134 => ((impl_WalkOk.f k x1109000 x1109001 x5).bind fun t1137 => (if t1137 = true then (if 0 < (x6.length : Int) then (if 0 < (t1134.length : Int) then (if (rd x6 0) = (rd t1134 0) then (if 0 ≤ (wrap64 ((x6.length : Int) - 1)) then (if (wrap64 ((x6.length : Int) - 1)) < (x6.length : Int) then (if 0 ≤ (wrap64 ((t1134.length : Int) - 1)) then (if (wrap64 ((t1134.length : Int) - 1)) < (t1134.length : Int) then (if (rd x6 (wrap64 ((x6.length : Int) - 1))) = (rd t1134 (wrap64 ((t1134.length : Int) - 1))) then ((impl_WalkCost.f k x1109000 x1109001 x5).bind fun t1142 => ((impl_WalkCost.f k x1109000 x1109001 x4).bind fun t1143 => (if t1142 ≤ t1143 then ((impl_WalkPlain.f k x1109000 x1109001 x5).bind fun t1144 => ((laws_wkInts.f k t1144 x5).bind fun t1147 => (some t1147))) else (some false)))) else (some false)) else (none)) else (none)) else (none)) else (none)) else (some false)) else (none)) else (none)) else (some false))))
end
def laws_FnWalkPlain.f (k : Nat) (l0 : List Int) : Option (Bool) := if (l0.length : Int) > 1048576 then (some true) else ((spec_DrawWalkPlain.f k l0).bind fun bt1101 => ((impl_WalkPlain.f k bt1101.1 bt1101.2.1 bt1101.2.2).bind fun t1109 => ((spec_WalkPlain.f k bt1101.1 bt1101.2.1 bt1101.2.2).bind fun t1112 => ((laws_wkInts.f k t1109 t1112).bind fun t1115 => (if t1115 = true then ((impl_WalkOk.f k bt1101.1 bt1101.2.1 bt1101.2.2).bind fun t1116 => (laws_FnWalkPlain.j0 k bt1101.2.2 t1109 (!t1116) bt1101.1 bt1101.2.1)) else (laws_FnWalkPlain.j0 k bt1101.2.2 t1109 true bt1101.1 bt1101.2.1))))))
theorem laws_FnWalkPlain.mono_l : ∀ k, (∀ y0 y1 y2 y3 y4, LeO (laws_FnWalkPlain.j0 k y0 y1 y2 y3 y4) (laws_FnWalkPlain.j0 (k + 1) y0 y1 y2 y3 y4)) ∧ (∀ y0 y1 y2 y3 y4 y5, LeO (laws_FnWalkPlain.l0 k y0 y1 y2 y3 y4 y5) (laws_FnWalkPlain.l0 (k + 1) y0 y1 y2 y3 y4 y5))
  | 0 => ⟨fun _ _ _ _ _ r h => by simp [laws_FnWalkPlain.j0] at h, fun _ _ _ _ _ _ r h => by simp [laws_FnWalkPlain.l0] at h⟩
  | k + 1 => by
    obtain ⟨ih0, ih1⟩ := laws_FnWalkPlain.mono_l k
    refine ⟨?_, ?_⟩
    · intro y0 y1 y2 y3 y4
      unfold laws_FnWalkPlain.j0
      repeat' first | (with_reducible first | exact ih0 _ _ _ _ _ | exact ih1 _ _ _ _ _ _ | exact impl_WalkCost.mono _ _ _ _ | exact impl_WalkNodes.mono _ _ _ _ | exact impl_WalkOk.mono _ _ _ _ | exact impl_WalkPlain.mono _ _ _ _ | exact laws_wkIn.mono _ _ _ | exact laws_wkInts.mono _ _ _ | exact spec_DrawWalkPlain.mono _ _ | exact spec_WalkPlain.mono _ _ _ _ | exact LeO.refl _ | exact LeO.none _ | refine LeO.ite ?_ ?_ | refine LeO.bind ?_ (fun _ => ?_)) | exact ih0 _ _ _ _ _ | exact ih1 _ _ _ _ _ _ | exact impl_WalkCost.mono _ _ _ _ | exact impl_WalkNodes.mono _ _ _ _ | exact impl_WalkOk.mono _ _ _ _ | exact impl_WalkPlain.mono _ _ _ _ | exact laws_wkIn.mono _ _ _ | exact laws_wkInts.mono _ _ _ | exact spec_DrawWalkPlain.mono _ _ | exact spec_WalkPlain.mono _ _ _ _ | exact LeO.none _ | refine LeO.ite ?_ ?_ | refine LeO.bind ?_ (fun _ => ?_)
    · intro y0 y1 y2 y3 y4 y5
      unfold laws_FnWalkPlain.l0
      repeat' first | (with_reducible first | exact ih0 _ _ _ _ _ | exact ih1 _ _ _ _ _ _ | exact impl_WalkCost.mono _ _ _ _ | exact impl_WalkNodes.mono _ _ _ _ | exact impl_WalkOk.mono _ _ _ _ | exact impl_WalkPlain.mono _ _ _ _ | exact laws_wkIn.mono _ _ _ | exact laws_wkInts.mono _ _ _ | exact spec_DrawWalkPlain.mono _ _ | exact spec_WalkPlain.mono _ _ _ _ | exact LeO.refl _ | exact LeO.none _ | refine LeO.ite ?_ ?_ | refine LeO.bind ?_ (fun _ => ?_)) | exact ih0 _ _ _ _ _ | exact ih1 _ _ _ _ _ _ | exact impl_WalkCost.mono _ _ _ _ | exact impl_WalkNodes.mono _ _ _ _ | exact impl_WalkOk.mono _ _ _ _ | exact impl_WalkPlain.mono _ _ _ _ | exact laws_wkIn.mono _ _ _ | exact laws_wkInts.mono _ _ _ | exact spec_DrawWalkPlain.mono _ _ | exact spec_WalkPlain.mono _ _ _ _ | exact LeO.none _ | refine LeO.ite ?_ ?_ | refine LeO.bind ?_ (fun _ => ?_)
theorem laws_FnWalkPlain.mono : ∀ a0 k, LeO (laws_FnWalkPlain.f k a0) (laws_FnWalkPlain.f (k + 1) a0) := by
  intro a0 k
  obtain ⟨ih0, ih1⟩ := laws_FnWalkPlain.mono_l k
  unfold laws_FnWalkPlain.f
  repeat' first | (with_reducible first | exact ih0 _ _ _ _ _ | exact ih1 _ _ _ _ _ _ | exact impl_WalkCost.mono _ _ _ _ | exact impl_WalkNodes.mono _ _ _ _ | exact impl_WalkOk.mono _ _ _ _ | exact impl_WalkPlain.mono _ _ _ _ | exact laws_wkIn.mono _ _ _ | exact laws_wkInts.mono _ _ _ | exact spec_DrawWalkPlain.mono _ _ | exact spec_WalkPlain.mono _ _ _ _ | exact LeO.refl _ | exact LeO.none _ | refine LeO.ite ?_ ?_ | refine LeO.bind ?_ (fun _ => ?_)) | exact ih0 _ _ _ _ _ | exact ih1 _ _ _ _ _ _ | exact impl_WalkCost.mono _ _ _ _ | exact impl_WalkNodes.mono _ _ _ _ | exact impl_WalkOk.mono _ _ _ _ | exact impl_WalkPlain.mono _ _ _ _ | exact laws_wkIn.mono _ _ _ | exact laws_wkInts.mono _ _ _ | exact spec_DrawWalkPlain.mono _ _ | exact spec_WalkPlain.mono _ _ _ _ | exact LeO.none _ | refine LeO.ite ?_ ?_ | refine LeO.bind ?_ (fun _ => ?_)
def laws_FnWalkPlain.T8 : Bool × List (List Nat × List Nat) := (true, [([], []), ([0], [0]), ([1], [1]), ([2], [2]), ([3], [3]), ([4, 3], [3, 4]), ([3], [3]), ([6, 3], [3, 6]), ([7, 3], [3, 7]), ([5, 8, 3], [3, 5, 8]), ([9, 3], [3, 9]), ([10, 3], [3, 10]), ([3], [3]), ([12, 3], [3, 12]), ([3], [3]), ([3], [3]), ([15, 3], [3, 15]), ([16, 3], [3, 16]), ([14, 17, 3], [3, 14, 17]), ([18, 3], [3, 18]), ([13, 19, 3], [3, 13, 19]), ([20, 3], [3, 20]), ([21, 3], [3, 21]), ([11, 22, 3], [3, 11, 22]), ([3, 23], [3, 23]), ([24, 3, 0, 1, 2, 3, 4, 5, 6, 7, 8, 9, 10, 11, 12, 13, 14, 15, 16, 17, 18, 19, 20, 21, 22, 23, 24], [24])])
def laws_FnWalkPlain.B8 : List Nat := [0, 1, 3, 7, 15, 31, 15, 79, 207, 511, 1023, 2047, 15, 4111, 15, 15, 32783, 98319, 245775, 507919, 1044495, 2093071, 4190223, 8388607, 16777215, 33554431]
theorem laws_FnWalkPlain.tab8 : rtab .any (opsOf Try.f17 8) = laws_FnWalkPlain.T8 := by kernel_rfl
theorem laws_FnWalkPlain.bits8 : waitsOk laws_FnWalkPlain.T8.2 laws_FnWalkPlain.B8 = true := by kernel_rfl
def laws_FnWalkPlain.T13 : Bool × List (List Nat × List Nat) := (true, [([], []), ([], []), ([0, 1], [0, 1]), ([], []), ([], []), ([3, 4], [3, 4]), ([5], [5]), ([2, 6], [2, 6])])
def laws_FnWalkPlain.B13 : List Nat := [0, 0, 3, 0, 0, 24, 56, 127]
theorem laws_FnWalkPlain.tab13 : rtab .any (opsOf Try.f17 13) = laws_FnWalkPlain.T13 := by kernel_rfl
theorem laws_FnWalkPlain.bits13 : waitsOk laws_FnWalkPlain.T13.2 laws_FnWalkPlain.B13 = true := by kernel_rfl
def laws_FnWalkPlain.T16 : Bool × List (List Nat × List Nat) := (true, [([], []), ([], []), ([0, 1], [0, 1]), ([2, 2], [2]), ([3], [3]), ([4, 3], [3, 4]), ([5, 3], [3, 5]), ([3], [3]), ([7, 3], [3, 7]), ([8, 3], [3, 8]), ([6, 9, 3], [3, 6, 9]), ([3, 10], [3, 10]), ([11, 3], [11]), ([12], [12]), ([12], [12]), ([14, 12], [12, 14]), ([15, 12], [12, 15]), ([13, 16, 12], [12, 13, 16]), ([17, 12], [12, 17]), ([12], [12]), ([12], [12]), ([20, 12], [12, 20]), ([21, 12], [12, 21]), ([19, 22, 12], [12, 19, 22]), ([23, 12], [12, 23]), ([18, 24, 12], [12, 18, 24]), ([12, 25], [12, 25]), ([26, 12], [26]), ([27], [27]), ([27], [27]), ([28, 29, 27, 27], [27, 28, 29]), ([27], [27]), ([27], [27]), ([31, 32, 30, 27], [27, 31, 32]), ([30, 33, 27], [27, 30, 33]), ([27, 34], [27, 34]), ([35, 33], [35]), ([36], [36]), ([36], [36]), ([37, 38, 36, 36], [36, 37, 38]), ([36], [36]), ([39, 40, 39, 36], [36, 39, 40]), ([36, 41], [36, 41]), ([42, 41, 0, 1, 2, 3, 4, 5, 6, 7, 8, 9, 10, 11, 12, 13, 14, 15, 16, 17, 18, 19, 20, 21, 22, 23, 24, 25, 26, 27, 28, 29, 30, 31, 32, 33, 34, 35, 36, 37, 38, 39, 40, 41, 42], [42])])
def laws_FnWalkPlain.B16 : List Nat := [0, 0, 3, 7, 15, 31, 63, 15, 143, 399, 1023, 2047, 4095, 8191, 8191, 24575, 57343, 131071, 262143, 8191, 8191, 1056767, 3153919, 7872511, 16261119, 33554431, 67108863, 134217727, 268435455, 268435455, 1073741823, 268435455, 268435455, 8589934591, 17179869183, 34359738367, 68719476735, 137438953471, 137438953471, 549755813887, 137438953471, 2199023255551, 4398046511103, 8796093022207]
theorem laws_FnWalkPlain.tab16 : rtab .any (opsOf Try.f17 16) = laws_FnWalkPlain.T16 := by kernel_rfl
theorem laws_FnWalkPlain.bits16 : waitsOk laws_FnWalkPlain.T16.2 laws_FnWalkPlain.B16 = true := by kernel_rfl
set_option maxHeartbeats 200000000 in
set_option maxRecDepth 100000 in
theorem laws_FnWalkPlain.calls (k : Nat) (A0 : Option Addr) (c0 : Nat) (l0 : List Int) (r : Bool) (w : World) (hr0 : Kd.C (Kd.int .u8) w A0 l0.length l0) (hc0 : l0.length ≤ c0) (h : laws_FnWalkPlain.f k l0 = some r) :
    Calls Try.prog 17 #[.slice A0 l0.length c0] w fun e w' => e = .returned (.bool r) ∧ Below w.heap.size w w' := by
  have hu29 := Try.underlying29
  have HR0 := Aside0.mk hr0
  have HC0 := Aside0.mk hc0
  clear hr0 hc0
  have HB := Aside0.mk (Below.refl w.heap.size w)
  have H : (if (l0.length : Int) > 1048576 then (some true) else ((spec_DrawWalkPlain.f k l0).bind fun bt1101 => ((impl_WalkPlain.f k bt1101.1 bt1101.2.1 bt1101.2.2).bind fun t1109 => ((spec_WalkPlain.f k bt1101.1 bt1101.2.1 bt1101.2.2).bind fun t1112 => ((laws_wkInts.f k t1109 t1112).bind fun t1115 => (if t1115 = true then ((impl_WalkOk.f k bt1101.1 bt1101.2.1 bt1101.2.2).bind fun t1116 => (laws_FnWalkPlain.j0 k bt1101.2.2 t1109 (!t1116) bt1101.1 bt1101.2.1)) else (laws_FnWalkPlain.j0 k bt1101.2.2 t1109 true bt1101.1 bt1101.2.1))))))) = some r := h
  clear h
  by_cases c2 : (l0.length : Int) > 1048576
  ·rw [if_pos c2] at H
   have c2b0 : decide (1048576 < (l0.length : Int)) = true := decide_eq_true c2
   have c2b1 : decide (1048576 < l0.length) = true := decide_eq_true (by omega)
   clear c2
   obtain rfl := Option.some.inj H
   go_enter Try.func17, Try.ntmps17
   go_wp2
   go_ret
   exact ⟨nw_, ne_ HB.out⟩
  rw [if_neg c2] at H
  have c2b0 : decide (1048576 < (l0.length : Int)) = false := decide_eq_false c2
  have c2b1 : decide (1048576 < l0.length) = false := decide_eq_false (by omega)
  clear c2
  replace H := Option.bind_eq_some_iff.mp H
  obtain ⟨⟨t1101, t1102, t1105⟩, A30, H⟩ := H
  try dsimp only at H
  have A3 := Aside0.mk A30
  clear A30
  replace H := Option.bind_eq_some_iff.mp H
  obtain ⟨t1109, A40, H⟩ := H
  try dsimp only at H
  have A4 := Aside0.mk A40
  clear A40
  have HC5 := Aside0.mk H
  clear H
  go_enter Try.func17, Try.ntmps17
  go_upto_region 5 with (first | ((with_reducible refine gate_callee (f := 55) rfl ?_); refine gl_ (some 14) Try.func55 #[.slice A0 l0.length c0] ?_; (with_reducible refine (spec_DrawWalkPlain.calls k _ _ l0 t1101 t1102 t1105 _ ?side1 ?side2 A3.out).mono ?_); (case side1 => repeat (first | exact HR0.out | (with_reducible refine Kd.C_alloc ?_ _) | (with_reducible refine Kd.C_drewN ?_ _) | (with_reducible refine Kd.C_drew ?_))); (case side2 => exact HC0.out); rintro e w6 ⟨v1103, v1106, rfl, ho0, ho1, hb⟩; refine ⟨_, rfl, ?_⟩; have HO1104 := Aside0.mk (Kd.R_lower ho0 (below_size (ne_ HB.out))); have HO1107 := Aside0.mk (Kd.R_lower ho1 (below_size (ne_ HB.out))); replace HB := kB_ HB hb; (try clear hb); (try clear hb2); (try clear hk); (try clear hi); (try clear ho0); (try clear ho1)) | ((with_reducible refine gate_dst (N := 3) rfl ?_); (try (refine gate_guard (by rfl) ?_; dsimp only)); refine bx_ 3 #[.int .i64 0, .slice none 0 0] 29 ?_; intro gb1108 hg w7 hbox hb; have BK1108 := Aside0.mk (hbox); have GW1108 := Aside0.mk (zs_ hg (ne_ HB.out)); have GE1108 := Aside0.mk (zs_ hg (ne_ HB.out)); replace HO1104 := kR_ HO1104 hb; replace HO1107 := kR_ HO1107 hb; replace HB := kB_ HB hb; clear hb hbox hg; obtain ⟨hcz8_0, hcz8_1, hfz8_0, hfz8_1⟩ := cz2_ BK1108.out; obtain ⟨Ao9, co9, eo9⟩ := Kd.R_slice HO1104.out; subst eo9; obtain ⟨Ao10, co10, eo10⟩ := Kd.R_slice HO1107.out; subst eo10) | ((with_reducible refine gate_callee (f := 56) rfl ?_); refine gl_ (some 19) Try.func56 #[.agg #[.int .i64 t1101, .slice Ao9 t1102.length co9], .slice Ao10 t1105.length co10] ?_; (with_reducible refine (impl_WalkPlain.calls k t1101 _ _ t1102 _ _ t1105 t1109 _ ?side1 ?side2 ?side3 ?side4 A4.out).mono ?_); (case side1 => refine (rR17 (e := 37) (base := w.heap.size) (ok := fun k_ => True) (n := t1102.length) (c := co9) ?_).2.2; exact (by (with_reducible repeat (first | apply Kd.R_alloc | apply Kd.R_drewN | apply rD17)); exact (Kd.R_mono (rf2_ (Kd.R_types HO1104.out BK1108.out (by decide))) (fun _ h_ => h_.1)))); (case side2 => exact (rR17 HO1104.out).2.1); (case side3 => refine (rR17 (e := 3) (base := w.heap.size) (ok := fun k_ => True) (n := t1105.length) (c := co10) ?_).2.2; exact (by (with_reducible repeat (first | apply Kd.R_alloc | apply Kd.R_drewN | apply rD17)); exact (Kd.R_mono (rf2_ (Kd.R_types HO1107.out BK1108.out (by decide))) (fun _ h_ => h_.1)))); (case side4 => exact (rR17 HO1107.out).2.1); rintro e w11 ⟨v1110, rfl, ho0, hb⟩; refine ⟨_, rfl, ?_⟩; have HO1111 := Aside0.mk (Kd.R_lower (Kd.R_new' ho0 (Kd.R_lt (by (with_reducible repeat (first | apply Kd.R_alloc | apply Kd.R_drewN | apply rD17)); exact (Kd.R_mono (rf2_ (Kd.R_types HO1107.out BK1108.out (by decide))) (fun _ h_ => h_.1))))) (below_size (ne_ HB.out))); replace HO1104 := Aside0.mk (Kd.R_below (by (with_reducible repeat (first | apply Kd.R_alloc | apply Kd.R_drewN | apply rD17)); exact (Kd.R_mono (rf2_ (Kd.R_types HO1104.out BK1108.out (by decide))) (fun _ h_ => h_.1))) hb); replace HO1107 := Aside0.mk (Kd.R_elder' (by (with_reducible repeat (first | apply Kd.R_alloc | apply Kd.R_drewN | apply rD17)); exact (Kd.R_mono (rf2_ (Kd.R_types HO1107.out BK1108.out (by decide))) (fun _ h_ => h_.1))) (Kd.R_base ho0) hb); replace BK1108 := Aside0.mk (blk_below (g := gb1108) (o := .cells #[.int .i64 t1101, .slice Ao9 t1102.length co9] 29 (0, 0)) (np_ BK1108.out) hb); replace HB := kB_ HB hb; (try clear hb); (try clear hb2); (try clear hk); (try clear hi); (try clear ho0)))
  (try simp only [Act.put, List.setIfInBounds_toArray, List.set_cons_zero, List.set_cons_succ])
  go_cut [31] (fun v31 wc => ∃ (kq : Nat) (x31_4 : Bool), v31 = .bool x31_4 ∧ Aside0 (laws_FnWalkPlain.j0 kq t1105 t1109 x31_4 t1101 t1102 = some r) ∧ Aside0 (kq ≤ k) ∧ Aside0 (Kd.R (Kd.int .i64) 3 wc w.heap.size (fun k_ => some k_ ≠ (v1110 : Value).ownBlock) (.slice Ao10 t1105.length co10) t1105) ∧ Aside0 (Kd.R (Kd.int .i64) 3 wc w.heap.size (fun k_ => some k_ ≠ ((.slice Ao10 t1105.length co10) : Value).ownBlock) v1110 t1109) ∧ Aside0 (Kd.R k37 37 wc w.heap.size (fun _ => True) (.slice Ao9 t1102.length co9) t1102) ∧ Aside0 (wc.heap[gb1108]? = some (.cells #[.int .i64 t1101, (.slice Ao9 t1102.length co9)] 29 (0, 0))) ∧ Aside0 (Below w.heap.size w wc))
  case first =>
   have H := HC5.out
   clear HC5
   replace H := Option.bind_eq_some_iff.mp H
   obtain ⟨t1112, A120, H⟩ := H
   try dsimp only at H
   have A12 := Aside0.mk A120
   clear A120
   replace H := Option.bind_eq_some_iff.mp H
   obtain ⟨t1115, A130, H⟩ := H
   try dsimp only at H
   have A13 := Aside0.mk A130
   clear A130
   by_cases c14 : t1115 = true
   rotate_left
   ·replace c14 := Bool.eq_false_iff.mpr c14
    subst c14
    have H1 : (laws_FnWalkPlain.j0 k t1105 t1109 true t1101 t1102) = some r := by rw [if_neg (show ¬ (false = true) by decide)] at H; exact H
    clear H
    have H := H1
    clear H1
    have H' := Aside0.mk H
    clear H
    obtain ⟨hcz22_0, hcz22_1, hfz22_0, hfz22_1⟩ := cz2_ BK1108.out
    go_wp2_with (first | ((with_reducible refine gate_callee (f := 57) rfl ?_); refine gl_ (some 23) Try.func57 #[.agg #[.int .i64 t1101, .slice Ao9 t1102.length co9], .slice Ao10 t1105.length co10] ?_; (with_reducible refine (spec_WalkPlain.calls k t1101 _ _ t1102 _ _ t1105 t1112 _ ?side1 ?side2 ?side3 ?side4 A12.out).mono ?_); (case side1 => exact nc_ (rR17 HO1104.out).2.2); (case side2 => exact (rR17 HO1104.out).2.1); (case side3 => exact nc_ (rR17 HO1107.out).2.2); (case side4 => exact (rR17 HO1107.out).2.1); rintro e w23 ⟨v1113, rfl, ho0, hb⟩; refine ⟨_, rfl, ?_⟩; have HO1114 := Aside0.mk (Kd.R_lower (Kd.R_new' (Kd.R_new' ho0 (Kd.R_lt (nr_ HO1107.out))) (Kd.R_lt (nr_ HO1111.out))) (below_size (ne_ HB.out))); replace HO1104 := kR_ HO1104 hb; replace HO1107 := Aside0.mk (Kd.R_elder' (nr_ HO1107.out) (Kd.R_base ho0) hb); replace HO1111 := Aside0.mk (Kd.R_elder' (nr_ HO1111.out) (Kd.R_base ho0) hb); replace BK1108 := kb_ BK1108 hb; replace HB := kB_ HB hb; (try clear hb); (try clear hb2); (try clear hk); (try clear hi); (try clear ho0); obtain ⟨Ao24, co24, eo24⟩ := Kd.R_slice HO1111.out; subst eo24; obtain ⟨Ao25, co25, eo25⟩ := Kd.R_slice HO1114.out; subst eo25) | ((with_reducible refine gate_callee (f := 30) rfl ?_); refine gl_ (some 24) Try.func30 #[.slice Ao24 t1109.length co24, .slice Ao25 t1112.length co25] ?_; (with_reducible refine (laws_wkInts.calls k _ _ t1109 _ _ t1112 false _ ?side1 ?side2 ?side3 ?side4 A13.out).mono ?_); (case side1 => exact nc_ (rR17 HO1111.out).2.2); (case side2 => exact (rR17 HO1111.out).2.1); (case side3 => exact nc_ (rR17 HO1114.out).2.2); (case side4 => exact (rR17 HO1114.out).2.1); rintro e w' ⟨rfl, ⟨nd, rfl⟩⟩; refine ⟨_, rfl, ?_⟩))
    go_meet
    case rel => exact ⟨_, (true), ns_, H', ⟨by first | omega | exact Nat.le_refl _⟩, ⟨by (with_reducible repeat (first | apply Kd.R_alloc | apply Kd.R_drewN | apply rD17)); exact Kd.R_mono HO1107.out (fun _ hk => by first | exact hk.1.2 | trivial | simp_all)⟩, ⟨by (with_reducible repeat (first | apply Kd.R_alloc | apply Kd.R_drewN | apply rD17)); exact Kd.R_mono HO1111.out (fun _ hk => by first | exact hk.1.2 | trivial | simp_all)⟩, ⟨nr_ HO1104.out⟩, ⟨nb_ BK1108.out⟩, ⟨ne_ HB.out⟩⟩
   subst c14
   rw [if_pos rfl] at H
   replace H := Option.bind_eq_some_iff.mp H
   obtain ⟨t1116, A150, H⟩ := H
   replace H : (laws_FnWalkPlain.j0 k t1105 t1109 (!t1116) t1101 t1102) = some r := H
   have A15 := Aside0.mk A150
   clear A150
   have H' := Aside0.mk H
   clear H
   obtain ⟨hcz16_0, hcz16_1, hfz16_0, hfz16_1⟩ := cz2_ BK1108.out
   go_wp2_with (first | ((with_reducible refine gate_callee (f := 57) rfl ?_); refine gl_ (some 23) Try.func57 #[.agg #[.int .i64 t1101, .slice Ao9 t1102.length co9], .slice Ao10 t1105.length co10] ?_; (with_reducible refine (spec_WalkPlain.calls k t1101 _ _ t1102 _ _ t1105 t1112 _ ?side1 ?side2 ?side3 ?side4 A12.out).mono ?_); (case side1 => exact nc_ (rR17 HO1104.out).2.2); (case side2 => exact (rR17 HO1104.out).2.1); (case side3 => exact nc_ (rR17 HO1107.out).2.2); (case side4 => exact (rR17 HO1107.out).2.1); rintro e w17 ⟨v1113, rfl, ho0, hb⟩; refine ⟨_, rfl, ?_⟩; have HO1114 := Aside0.mk (Kd.R_lower (Kd.R_new' (Kd.R_new' ho0 (Kd.R_lt (nr_ HO1107.out))) (Kd.R_lt (nr_ HO1111.out))) (below_size (ne_ HB.out))); replace HO1104 := kR_ HO1104 hb; replace HO1107 := Aside0.mk (Kd.R_elder' (nr_ HO1107.out) (Kd.R_base ho0) hb); replace HO1111 := Aside0.mk (Kd.R_elder' (nr_ HO1111.out) (Kd.R_base ho0) hb); replace BK1108 := kb_ BK1108 hb; replace HB := kB_ HB hb; (try clear hb); (try clear hb2); (try clear hk); (try clear hi); (try clear ho0); obtain ⟨Ao18, co18, eo18⟩ := Kd.R_slice HO1111.out; subst eo18; obtain ⟨Ao19, co19, eo19⟩ := Kd.R_slice HO1114.out; subst eo19) | ((with_reducible refine gate_callee (f := 30) rfl ?_); refine gl_ (some 24) Try.func30 #[.slice Ao18 t1109.length co18, .slice Ao19 t1112.length co19] ?_; (with_reducible refine (laws_wkInts.calls k _ _ t1109 _ _ t1112 true _ ?side1 ?side2 ?side3 ?side4 A13.out).mono ?_); (case side1 => exact nc_ (rR17 HO1111.out).2.2); (case side2 => exact (rR17 HO1111.out).2.1); (case side3 => exact nc_ (rR17 HO1114.out).2.2); (case side4 => exact (rR17 HO1114.out).2.1); rintro e w' ⟨rfl, ⟨nd, rfl⟩⟩; refine ⟨_, rfl, ?_⟩; obtain ⟨hcz20_0, hcz20_1, hfz20_0, hfz20_1⟩ := cz2_ BK1108.out) | (go_at_call 43; (with_reducible refine (impl_WalkOk.calls k t1101 _ _ t1102 _ _ t1105 t1116 _ ?side1 ?side2 ?side3 ?side4 A15.out).mono ?_); (case side1 => exact nc_ (rR17 HO1104.out).2.2); (case side2 => exact (rR17 HO1104.out).2.1); (case side3 => exact nc_ (rR17 HO1107.out).2.2); (case side4 => exact (rR17 HO1107.out).2.1); rintro e w21 ⟨rfl, hb⟩; replace HO1104 := kR_ HO1104 hb; replace HO1107 := kR_ HO1107 hb; replace HO1111 := kR_ HO1111 hb; replace HO1114 := kR_ HO1114 hb; replace BK1108 := kb_ BK1108 hb; replace HB := kB_ HB hb; (try clear hb); (try clear hb2); (try clear hk); (try clear hi)))
   go_meet
   case rel => exact ⟨_, (!t1116), ns_, H', ⟨by first | omega | exact Nat.le_refl _⟩, ⟨by (with_reducible repeat (first | apply Kd.R_alloc | apply Kd.R_drewN | apply rD17)); exact Kd.R_mono HO1107.out (fun _ hk => by first | exact hk.1.2 | trivial | simp_all)⟩, ⟨by (with_reducible repeat (first | apply Kd.R_alloc | apply Kd.R_drewN | apply rD17)); exact Kd.R_mono HO1111.out (fun _ hk => by first | exact hk.1.2 | trivial | simp_all)⟩, ⟨nr_ HO1104.out⟩, ⟨nb_ BK1108.out⟩, ⟨ne_ HB.out⟩⟩
  case rest =>
   clear HC5
   try clear c2
   try clear c2b0
   try clear c2b1
   try clear hcz8_0
   try clear hcz8_1
   try clear hfz8_0
   try clear hfz8_1
   obtain ⟨kq, x31_4, rfl, HA, HJ4, HO_4, HO_5, HO_1109001, BK1108, HB⟩ := hcut
   cases kq with
   | zero => exact absurd HA.out (by simp [laws_FnWalkPlain.j0])
   | succ kj4 =>
    have H := HA.out
    clear HA
    simp only [laws_FnWalkPlain.j0] at H
    by_cases c26 : x31_4 = true
    ·subst c26
     rw [if_pos rfl] at H
     replace H := Option.bind_eq_some_iff.mp H
     obtain ⟨t1117, A270, H⟩ := H
     replace H : ((laws_wkInts.f kj4 t1109 t1117).bind fun t1120 => (some t1120)) = some r := H
     have A27 := Aside0.mk A270
     clear A270
     replace H := Option.bind_eq_some_iff.mp H
     obtain ⟨t1120, A280, H⟩ := H
     replace H : (some t1120) = some r := H
     have A28 := Aside0.mk A280
     clear A280
     obtain rfl := Option.some.inj H
     obtain ⟨hcz29_0, hcz29_1, hfz29_0, hfz29_1⟩ := cz2_ BK1108.out
     go_wp2_with (first | ((with_reducible refine gate_callee (f := 57) rfl ?_); refine gl_ (some 35) Try.func57 #[.agg #[.int .i64 t1101, .slice Ao9 t1102.length co9], .slice Ao10 t1105.length co10] ?_; (with_reducible refine (spec_WalkPlain.calls kj4 t1101 _ _ t1102 _ _ t1105 t1117 _ ?side1 ?side2 ?side3 ?side4 A27.out).mono ?_); (case side1 => exact nc_ (rR17 HO_1109001.out).2.2); (case side2 => exact (rR17 HO_1109001.out).2.1); (case side3 => exact nc_ (rR17 HO_4.out).2.2); (case side4 => exact (rR17 HO_4.out).2.1); rintro e w30 ⟨v1118, rfl, ho0, hb⟩; refine ⟨_, rfl, ?_⟩; have HO1119 := Aside0.mk (Kd.R_lower (Kd.R_new' (Kd.R_new' ho0 (Kd.R_lt (nr_ HO_4.out))) (Kd.R_lt (nr_ HO_5.out))) (below_size (ne_ HB.out))); replace HO_4 := Aside0.mk (Kd.R_elder' (nr_ HO_4.out) (Kd.R_base ho0) hb); replace HO_5 := Aside0.mk (Kd.R_elder' (nr_ HO_5.out) (Kd.R_base ho0) hb); replace HO_1109001 := kR_ HO_1109001 hb; replace BK1108 := kb_ BK1108 hb; replace HB := kB_ HB hb; (try clear hb); (try clear hb2); (try clear hk); (try clear hi); (try clear ho0); obtain ⟨Ao31, co31, eo31⟩ := Kd.R_slice HO_5.out; subst eo31; obtain ⟨Ao32, co32, eo32⟩ := Kd.R_slice HO1119.out; subst eo32) | ((with_reducible refine gate_callee (f := 30) rfl ?_); refine gl_ (some 36) Try.func30 #[.slice Ao31 t1109.length co31, .slice Ao32 t1117.length co32] ?_; (with_reducible refine (laws_wkInts.calls kj4 _ _ t1109 _ _ t1117 t1120 _ ?side1 ?side2 ?side3 ?side4 A28.out).mono ?_); (case side1 => exact nc_ (rR17 HO_5.out).2.2); (case side2 => exact (rR17 HO_5.out).2.1); (case side3 => exact nc_ (rR17 HO1119.out).2.2); (case side4 => exact (rR17 HO1119.out).2.1); rintro e w' ⟨rfl, ⟨nd, rfl⟩⟩; refine ⟨_, rfl, ?_⟩))
     go_ret
     exact ⟨nw_, ne_ HB.out⟩
    replace c26 := Bool.eq_false_iff.mpr c26
    subst c26
    have H1 : (if (t1109.length : Int) = 0 then (if (t1105.length : Int) = 0 then (some true) else (if 0 < (t1105.length : Int) then (if 0 ≤ (rd t1105 0) then (if (rd t1105 0) < (t1102.length : Int) then (if 0 ≤ (wrap64 ((t1105.length : Int) - 1)) then (if (wrap64 ((t1105.length : Int) - 1)) < (t1105.length : Int) then (if 0 ≤ (rd t1105 (wrap64 ((t1105.length : Int) - 1))) then (if (rd t1105 (wrap64 ((t1105.length : Int) - 1))) < (t1102.length : Int) then (some (((rd_T37 t1102 (rd t1105 0)).f0) == ((rd_T37 t1102 (rd t1105 (wrap64 ((t1105.length : Int) - 1)))).f1))) else (none)) else (none)) else (none)) else (none)) else (none)) else (none)) else (none))) else ((impl_WalkNodes.f kj4 t1101 t1102 t1109).bind fun t1125 => (laws_FnWalkPlain.l0 kj4 t1105 t1109 t1125 0 t1101 t1102))) = some r := by rw [if_neg (show ¬ (false = true) by decide)] at H; exact H
    clear H
    have H := H1
    clear H1
    by_cases c33 : (t1109.length : Int) = 0
    ·rw [if_pos c33] at H
     have c33b0 : ((t1109.length : Int) == 0) = true := beq_iff_eq.mpr c33
     have c33b1 : ((t1109.length : Int) != 0) = false := bne_eq_false_iff_eq.mpr c33
     clear c33
     by_cases c34 : (t1105.length : Int) = 0
     ·rw [if_pos c34] at H
      have c34b0 : ((t1105.length : Int) == 0) = true := beq_iff_eq.mpr c34
      have c34b1 : ((t1105.length : Int) != 0) = false := bne_eq_false_iff_eq.mpr c34
      clear c34
      obtain rfl := Option.some.inj H
      obtain ⟨Ao35, co35, eo35⟩ := Kd.R_slice HO_5.out
      subst eo35
      try go_wp2
      replace HO_4 := Aside0.mk (rD17 HO_4.out)
      replace HO_5 := Aside0.mk (rD17 HO_5.out)
      replace HO_1109001 := Aside0.mk (rD17 HO_1109001.out)
      replace BK1108 := Aside0.mk (blk_drew BK1108.out)
      replace HB := Aside0.mk (below_drew1 HB.out)
      refine start_ (n := 26) (S := fun w' => True) (ds := []) z17_0 (by kernel_rfl) rfl rfl trivial (fun hHeld => ?_); refine with_tabW laws_FnWalkPlain.tab8 laws_FnWalkPlain.bits8 (fun HT_ HW_ => ?_)
      generalize wc.drew = w36 at HO_4 HO_5 HO_1109001 BK1108 HB hHeld ⊢
      refine pu_ 0 40 z17_1 HT_.out ?_
      refine pu_ 1 41 z17_2 HT_.out ?_
      refine pu_ 2 42 z17_3 HT_.out ?_
      refine pu_ 3 43 z17_4 HT_.out ?_
      refine un_ 4 44 z17_5 HT_.out ?_
      refine un_ 5 45 (bm_ 26 63) HT_.out ?_
      refine un_ 6 46 (bm_ 26 127) HT_.out ?_
      refine un_ 7 47 (bm_ 26 255) HT_.out ?_
      refine un_ 8 48 (bm_ 26 511) HT_.out ?_
      refine un_ 9 49 (bm_ 26 1023) HT_.out ?_
      refine un_ 10 50 (bm_ 26 2047) HT_.out ?_
      refine un_ 11 51 (bm_ 26 4095) HT_.out ?_
      refine un_ 12 52 (bm_ 26 8191) HT_.out ?_
      refine un_ 13 53 (bm_ 26 16383) HT_.out ?_
      refine un_ 14 54 (bm_ 26 32767) HT_.out ?_
      refine un_ 15 55 (bm_ 26 65535) HT_.out ?_
      refine un_ 16 56 (bm_ 26 131071) HT_.out ?_
      refine un_ 17 57 (bm_ 26 262143) HT_.out ?_
      refine un_ 18 58 z17_6 HT_.out ?_
      refine un_ 19 59 z17_7 HT_.out ?_
      refine un_ 20 60 z17_8 HT_.out ?_
      refine un_ 21 61 z17_9 HT_.out ?_
      refine un_ 22 62 z17_10 HT_.out ?_
      refine un_ 23 63 z17_11 HT_.out ?_
      refine pu_ 24 64 z17_12 HT_.out ?_
      refine pu_ 25 2 z17_13 HT_.out ?_
      refine done_ (done_of HT_.out (by kernel_rfl)) ?_
      try go_wp2
      go_ret
      exact ⟨nw_, ne_ HB.out⟩
     rw [if_neg c34] at H
     have c34b0 : ((t1105.length : Int) == 0) = false := beq_eq_false_iff_ne.mpr c34
     have c34b1 : ((t1105.length : Int) != 0) = true := bne_iff_ne.mpr c34
     have c34b2 : ¬ (t1105 = []) := fun h_ => c34 (by rw [h_]; rfl)
     by_cases c37 : 0 < (t1105.length : Int)
     rotate_left
     ·rw [if_neg c37] at H
      exact absurd H (by simp)
     rw [if_pos c37] at H
     have c37b0 : decide (0 < (t1105.length : Int)) = true := decide_eq_true c37
     have c37b1 : decide (0 < t1105.length) = true := decide_eq_true (by omega)
     clear c37
     by_cases c38 : 0 ≤ (rd t1105 0)
     rotate_left
     ·rw [if_neg c38] at H
      exact absurd H (by simp)
     rw [if_pos c38] at H
     have c38b0 : decide (0 ≤ (rd t1105 0)) = true := decide_eq_true c38
     clear c38
     by_cases c39 : (rd t1105 0) < (t1102.length : Int)
     rotate_left
     ·rw [if_neg c39] at H
      exact absurd H (by simp)
     rw [if_pos c39] at H
     have c39b0 : decide ((rd t1105 0) < (t1102.length : Int)) = true := decide_eq_true c39
     clear c39
     obtain ⟨ji40, hji40⟩ : ∃ j_ : Int, (wrap64 ((t1105.length : Int) - 1)) = j_ := ⟨_, rfl⟩
     replace H : (if 0 ≤ (ji40) then (if (ji40) < (t1105.length : Int) then (if 0 ≤ (rd t1105 (ji40)) then (if (rd t1105 (ji40)) < (t1102.length : Int) then (some (((rd_T37 t1102 (rd t1105 0)).f0) == ((rd_T37 t1102 (rd t1105 (ji40))).f1))) else (none)) else (none)) else (none)) else (none)) = some r := by first | (rw [hji40] at H; exact H) | (simp only [hji40] at H ⊢; exact H)
     have hji40w : (IntKind.i64.wrap ((t1105.length : Int) - 1)) = ji40 := (i64_w _).trans hji40
     by_cases c41 : 0 ≤ (ji40)
     rotate_left
     ·rw [if_neg c41] at H
      exact absurd H (by simp)
     rw [if_pos c41] at H
     have c41b0 : decide (0 ≤ (ji40)) = true := decide_eq_true c41
     clear c41
     by_cases c42 : (ji40) < (t1105.length : Int)
     rotate_left
     ·rw [if_neg c42] at H
      exact absurd H (by simp)
     rw [if_pos c42] at H
     have c42b0 : decide ((ji40) < (t1105.length : Int)) = true := decide_eq_true c42
     clear c42
     by_cases c43 : 0 ≤ (rd t1105 (ji40))
     rotate_left
     ·rw [if_neg c43] at H
      exact absurd H (by simp)
     rw [if_pos c43] at H
     have c43b0 : decide (0 ≤ (rd t1105 (ji40))) = true := decide_eq_true c43
     clear c43
     by_cases c44 : (rd t1105 (ji40)) < (t1102.length : Int)
     rotate_left
     ·rw [if_neg c44] at H
      exact absurd H (by simp)
     rw [if_pos c44] at H
     have c44b0 : decide ((rd t1105 (ji40)) < (t1102.length : Int)) = true := decide_eq_true c44
     clear c44
     obtain rfl := Option.some.inj H
     obtain ⟨Ao45, co45, eo45⟩ := Kd.R_slice HO_5.out
     subst eo45
     try go_wp2
     replace HO_4 := Aside0.mk (rD17 HO_4.out)
     replace HO_5 := Aside0.mk (rD17 HO_5.out)
     replace HO_1109001 := Aside0.mk (rD17 HO_1109001.out)
     replace BK1108 := Aside0.mk (blk_drew BK1108.out)
     replace HB := Aside0.mk (below_drew1 HB.out)
     have p1121 : 0 ≤ (0 : Int) := (by omega)
     have q1121 : 0 < (t1105.length : Int) := of_decide_eq_true nx_
     obtain ⟨ad1121, e1121, hx1121_0⟩ := Kd.at_int (rR17 HO_4.out).2.2 0 p1121 q1121
     cases e1121
     have qi1121 : (0 < t1105.length) = True := eq_true (by omega)
     (try rw [show ((0 : Int)).toNat = 0 from rfl] at hx1121_0)
     (try rw [Addr.add_zero'] at hx1121_0)
     replace p1121 := eq_true p1121
     replace q1121 := eq_true q1121
     have p1122 : 0 ≤ ((rd t1105 0) : Int) := of_decide_eq_true nx_
     have q1122 : (rd t1105 0) < (t1102.length : Int) := of_decide_eq_true nx_
     obtain ⟨ad1122, e1122, hx1122_0, hx1122_1, hx1122_2, hx1122_3, hx1122_4⟩ := at_T37 (rR17 HO_1109001.out).2.2 (rd t1105 0) p1122 q1122
     cases e1122
     replace p1122 := eq_true p1122
     replace q1122 := eq_true q1122
     have p1123 : 0 ≤ ((ji40) : Int) := of_decide_eq_true nx_
     have q1123 : (ji40) < (t1105.length : Int) := of_decide_eq_true nx_
     obtain ⟨ad1123, e1123, hx1123_0⟩ := Kd.at_int (rR17 HO_4.out).2.2 (ji40) p1123 q1123
     obtain rfl : ad1121 = ad1123 := (by injection e1123)
     replace p1123 := eq_true p1123
     replace q1123 := eq_true q1123
     have p1124 : 0 ≤ ((rd t1105 (ji40)) : Int) := of_decide_eq_true nx_
     have q1124 : (rd t1105 (ji40)) < (t1102.length : Int) := of_decide_eq_true nx_
     obtain ⟨ad1124, e1124, hx1124_0, hx1124_1, hx1124_2, hx1124_3, hx1124_4⟩ := at_T37 (rR17 HO_1109001.out).2.2 (rd t1105 (ji40)) p1124 q1124
     obtain rfl : ad1122 = ad1124 := (by injection e1124)
     replace p1124 := eq_true p1124
     replace q1124 := eq_true q1124
     refine start_ (n := 26) (S := fun w' => w'.cell? ⟨gb1108, 0, none⟩ = some (.int .i64 t1101) ∧ w'.cell? ⟨gb1108, 1, none⟩ = some (.slice (some ad1122) t1102.length co9) ∧ w'.cell? ad1121 = some (.int .i64 (rd t1105 0)) ∧ w'.cell? (ad1122.add (((rd t1105 0)).toNat * 5)) = some (.int .i64 ((rd_T37 t1102 (rd t1105 0)).f0)) ∧ w'.cell? ⟨(ad1122.add (((rd t1105 0)).toNat * 5)).block, (ad1122.add (((rd t1105 0)).toNat * 5)).off + 1, none⟩ = some (.int .i64 ((rd_T37 t1102 (rd t1105 0)).f1)) ∧ w'.cell? ⟨(ad1122.add (((rd t1105 0)).toNat * 5)).block, (ad1122.add (((rd t1105 0)).toNat * 5)).off + 2, none⟩ = some (.int .i64 ((rd_T37 t1102 (rd t1105 0)).f2)) ∧ w'.cell? ⟨(ad1122.add (((rd t1105 0)).toNat * 5)).block, (ad1122.add (((rd t1105 0)).toNat * 5)).off + 3, none⟩ = some (.int .i64 ((rd_T37 t1102 (rd t1105 0)).f3)) ∧ w'.cell? ⟨(ad1122.add (((rd t1105 0)).toNat * 5)).block, (ad1122.add (((rd t1105 0)).toNat * 5)).off + 4, none⟩ = some (.int .i64 ((rd_T37 t1102 (rd t1105 0)).f4)) ∧ w'.cell? (ad1121.add ((ji40)).toNat) = some (.int .i64 (rd t1105 (ji40))) ∧ w'.cell? (ad1122.add (((rd t1105 (ji40))).toNat * 5)) = some (.int .i64 ((rd_T37 t1102 (rd t1105 (ji40))).f0)) ∧ w'.cell? ⟨(ad1122.add (((rd t1105 (ji40))).toNat * 5)).block, (ad1122.add (((rd t1105 (ji40))).toNat * 5)).off + 1, none⟩ = some (.int .i64 ((rd_T37 t1102 (rd t1105 (ji40))).f1)) ∧ w'.cell? ⟨(ad1122.add (((rd t1105 (ji40))).toNat * 5)).block, (ad1122.add (((rd t1105 (ji40))).toNat * 5)).off + 2, none⟩ = some (.int .i64 ((rd_T37 t1102 (rd t1105 (ji40))).f2)) ∧ w'.cell? ⟨(ad1122.add (((rd t1105 (ji40))).toNat * 5)).block, (ad1122.add (((rd t1105 (ji40))).toNat * 5)).off + 3, none⟩ = some (.int .i64 ((rd_T37 t1102 (rd t1105 (ji40))).f3)) ∧ w'.cell? ⟨(ad1122.add (((rd t1105 (ji40))).toNat * 5)).block, (ad1122.add (((rd t1105 (ji40))).toNat * 5)).off + 4, none⟩ = some (.int .i64 ((rd_T37 t1102 (rd t1105 (ji40))).f4))) (ds := []) z17_0 (by kernel_rfl) rfl rfl ⟨ct_ BK1108.out 0, ct_ BK1108.out 1, hx1121_0, hx1122_0, hx1122_1, hx1122_2, hx1122_3, hx1122_4, hx1123_0, hx1124_0, hx1124_1, hx1124_2, hx1124_3, hx1124_4⟩ (fun hHeld => ?_); refine with_tabW laws_FnWalkPlain.tab8 laws_FnWalkPlain.bits8 (fun HT_ HW_ => ?_)
     generalize wc.drew = w46 at HO_4 HO_5 HO_1109001 BK1108 HB hx1121_0 hx1122_0 hx1122_1 hx1122_2 hx1122_3 hx1122_4 hx1123_0 hx1124_0 hx1124_1 hx1124_2 hx1124_3 hx1124_4 hHeld ⊢
     refine pu_ 0 40 z17_1 HT_.out ?_
     refine pu_ 1 41 z17_2 HT_.out ?_
     refine pu_ 2 42 z17_3 HT_.out ?_
     refine pu_ 3 43 z17_4 HT_.out ?_
     refine pu_ 4 44 z17_5 HT_.out ?_
     refine pu_ 6 46 (bm_ 26 95) HT_.out ?_
     refine pu_ 7 47 (bm_ 26 223) HT_.out ?_
     refine pu_ 12 52 (bm_ 26 4319) HT_.out ?_
     refine pu_ 14 54 (bm_ 26 20703) HT_.out ?_
     refine pu_ 15 55 (bm_ 26 53471) HT_.out ?_
     refine pu_ 16 56 (bm_ 26 119007) HT_.out ?_
     refine pu_ 17 57 (bm_ 26 250079) HT_.out ?_
     refine pu_ 18 58 (bm_ 26 512223) HT_.out ?_
     refine tk_ 5 45 (bm_ 26 512255) HT_.out HW_.out hHeld ?_
     refine tk_ 8 48 (bm_ 26 512511) HT_.out HW_.out hHeld ?_
     refine pu_ 9 49 (bm_ 26 513023) HT_.out ?_
     refine pu_ 10 50 (bm_ 26 514047) HT_.out ?_
     refine tk_ 11 51 (bm_ 26 516095) HT_.out HW_.out hHeld ?_
     refine tk_ 13 53 z17_6 HT_.out HW_.out hHeld ?_
     refine tk_ 19 59 z17_7 HT_.out HW_.out hHeld ?_
     refine pu_ 20 60 z17_8 HT_.out ?_
     refine pu_ 21 61 z17_9 HT_.out ?_
     refine tk_ 22 62 z17_10 HT_.out HW_.out hHeld ?_
     refine pu_ 23 63 z17_11 HT_.out ?_
     refine pu_ 24 64 z17_12 HT_.out ?_
     refine pu_ 25 2 z17_13 HT_.out ?_
     refine done_ (done_of HT_.out (by kernel_rfl)) ?_
     try go_wp2
     go_ret
     exact ⟨by first | rfl | (simp [errW_none, errW_some] <;> rfl) | (simp only [← hji40]; first | rfl | (simp [errW_none, errW_some] <;> rfl)) | (simp [*, errW_none, errW_some] <;> rfl), ne_ HB.out⟩
    rw [if_neg c33] at H
    have c33b0 : ((t1109.length : Int) == 0) = false := beq_eq_false_iff_ne.mpr c33
    have c33b1 : ((t1109.length : Int) != 0) = true := bne_iff_ne.mpr c33
    have c33b2 : ¬ (t1109 = []) := fun h_ => c33 (by rw [h_]; rfl)
    replace H := Option.bind_eq_some_iff.mp H
    obtain ⟨t1125, A470, H⟩ := H
    replace H : (laws_FnWalkPlain.l0 kj4 t1105 t1109 t1125 0 t1101 t1102) = some r := H
    have A47 := Aside0.mk A470
    clear A470
    have H' := Aside0.mk H
    clear H
    obtain ⟨Ao48, co48, eo48⟩ := Kd.R_slice HO_5.out
    subst eo48
    obtain ⟨hcz49_0, hcz49_1, hfz49_0, hfz49_1⟩ := cz2_ BK1108.out
    go_wp2_with (first | ((with_reducible refine gate_callee (f := 50) rfl ?_); refine gl_ (some 67) Try.func50 #[.agg #[.int .i64 t1101, .slice Ao9 t1102.length co9], .slice Ao48 t1109.length co48] ?_; (with_reducible refine (impl_WalkNodes.calls kj4 t1101 _ _ t1102 _ _ t1109 t1125 _ ?side1 ?side2 ?side3 ?side4 A47.out).mono ?_); (case side1 => exact nc_ (rR17 HO_1109001.out).2.2); (case side2 => exact (rR17 HO_1109001.out).2.1); (case side3 => exact nc_ (rR17 HO_5.out).2.2); (case side4 => exact (rR17 HO_5.out).2.1); rintro e w50 ⟨v1126, rfl, ho0, hb⟩; refine ⟨_, rfl, ?_⟩; have HO1127 := Aside0.mk (Kd.R_lower (Kd.R_new' (Kd.R_new' ho0 (Kd.R_lt (nr_ HO_4.out))) (Kd.R_lt (nr_ HO_5.out))) (below_size (ne_ HB.out))); replace HO_4 := Aside0.mk (Kd.R_elder' (nr_ HO_4.out) (Kd.R_base ho0) hb); replace HO_5 := Aside0.mk (Kd.R_elder' (nr_ HO_5.out) (Kd.R_base ho0) hb); replace HO_1109001 := kR_ HO_1109001 hb; replace BK1108 := kb_ BK1108 hb; replace HB := kB_ HB hb; (try clear hb); (try clear hb2); (try clear hk); (try clear hi); (try clear ho0)))
    go_loopg [7] kj4 (fun kq v7 w' => ∃ (x7_2 : Int), v7 = .int .i64 x7_2 ∧ Aside0 (laws_FnWalkPlain.l0 kq t1105 t1109 t1125 x7_2 t1101 t1102 = some r) ∧ Aside0 (kq ≤ kj4) ∧ Aside0 (Kd.R (Kd.int .i64) 3 w' w.heap.size (fun k_ => some k_ ≠ ((.slice Ao48 t1109.length co48) : Value).ownBlock ∧ some k_ ≠ (v1126 : Value).ownBlock) (.slice Ao10 t1105.length co10) t1105) ∧ Aside0 (Kd.R (Kd.int .i64) 3 w' w.heap.size (fun k_ => some k_ ≠ ((.slice Ao10 t1105.length co10) : Value).ownBlock ∧ some k_ ≠ (v1126 : Value).ownBlock) (.slice Ao48 t1109.length co48) t1109) ∧ Aside0 (Kd.R (Kd.int .i64) 3 w' w.heap.size (fun k_ => some k_ ≠ ((.slice Ao10 t1105.length co10) : Value).ownBlock ∧ some k_ ≠ ((.slice Ao48 t1109.length co48) : Value).ownBlock) v1126 t1125) ∧ Aside0 (Kd.R k37 37 w' w.heap.size (fun _ => True) (.slice Ao9 t1102.length co9) t1102) ∧ Aside0 (w'.heap[gb1108]? = some (.cells #[.int .i64 t1101, (.slice Ao9 t1102.length co9)] 29 (0, 0))) ∧ Aside0 (Below w.heap.size w w'))
    case atStart => exact ⟨(0), ns_, H', ⟨Nat.le_refl _⟩, ⟨nr_ HO_4.out⟩, ⟨nr_ HO_5.out⟩, ⟨by (with_reducible repeat (first | apply Kd.R_alloc | apply Kd.R_drewN | apply rD17)); exact Kd.R_mono HO1127.out (fun _ hk => by first | exact ⟨hk.1.2, hk.2⟩ | trivial | simp_all)⟩, ⟨nr_ HO_1109001.out⟩, ⟨nb_ BK1108.out⟩, ⟨ne_ HB.out⟩⟩
    case round =>
     clear H'
     try clear c2
     try clear c2b0
     try clear c2b1
     try clear c26
     try clear c33
     try clear c33b0
     try clear c33b1
     try clear c33b2
     try clear hcz49_0
     try clear hcz49_1
     try clear hcz8_0
     try clear hcz8_1
     try clear hfz49_0
     try clear hfz49_1
     try clear hfz8_0
     try clear hfz8_1
     obtain ⟨x7_2, rfl, HA, HK2, HO_4, HO_5, HO_6, HO_1109001, BK1108, HB⟩ := hrel
     cases gk with
     | zero => exact absurd HA.out (by simp [laws_FnWalkPlain.l0])
     | succ k2 =>
      have H := HA.out
      clear HA
      simp only [laws_FnWalkPlain.l0] at H
      by_cases c51 : x7_2 < (t1125.length : Int)
      ·rw [if_pos c51] at H
       have c51b0 : decide (x7_2 < (t1125.length : Int)) = true := decide_eq_true c51
       clear c51
       by_cases c52 : 0 ≤ x7_2
       rotate_left
       ·rw [if_neg c52] at H
        exact absurd H (by simp)
       rw [if_pos c52] at H
       have c52b0 := eq_true c52
       have c52b1 : decide (0 ≤ x7_2) = true := decide_eq_true c52
       clear c52
       by_cases c53 : x7_2 ≤ (t1125.length : Int)
       rotate_left
       ·rw [if_neg c53] at H
        exact absurd H (by simp)
       rw [if_pos c53] at H
       have c53b0 := eq_true c53
       have c53b1 : decide (x7_2 ≤ (t1125.length : Int)) = true := decide_eq_true c53
       clear c53
       obtain ⟨y1128, hy1128⟩ : ∃ y_ : List Int, y_ = (t1125.take (x7_2 : Int).toNat) := ⟨_, rfl⟩
       replace H : ((laws_wkIn.f k2 y1128 (rd t1125 x7_2)).bind fun t1133 => (if t1133 = true then (some false) else (laws_FnWalkPlain.l0 k2 t1105 t1109 t1125 (wrap64 (x7_2 + 1)) t1101 t1102))) = some r := by first | (rw [hy1128]; with_reducible exact H) | (have H2_ := (Option.bind_some _ _).symm.trans H; rw [hy1128]; with_reducible exact H2_) | (have H2_ := (Option.bind_some _ _).symm.trans H; with_reducible exact H2_) | with_reducible exact H | (rw [hy1128]; exact H) | exact H
       have Ny1128 := Aside0.mk hy1128
       clear hy1128
       replace H := Option.bind_eq_some_iff.mp H
       obtain ⟨t1133, A540, H⟩ := H
       try dsimp only at H
       have A54 := Aside0.mk A540
       clear A540
       by_cases c55 : t1133 = true
       ·subst c55
        have H1 : (some false) = some r := by rw [if_pos rfl] at H; exact H
        clear H
        have H := H1
        clear H1
        obtain rfl := Option.some.inj H
        obtain ⟨Ao56, co56, eo56⟩ := Kd.R_slice HO_6.out
        subst eo56
        try go_wp2
        replace HO_4 := Aside0.mk (rD17 HO_4.out)
        replace HO_5 := Aside0.mk (rD17 HO_5.out)
        replace HO_6 := Aside0.mk (rD17 HO_6.out)
        replace HO_1109001 := Aside0.mk (rD17 HO_1109001.out)
        replace BK1108 := Aside0.mk (blk_drew BK1108.out)
        replace HB := Aside0.mk (below_drew1 HB.out)
        have q58 : (x7_2 : Int) ≤ ((t1125.length : Int) : Int) := of_decide_eq_true nx_
        obtain ⟨i058, hi058, _, hsz58, _⟩ := info_parts info3
        have hroom58 : t1125.length ≤ co56 := (rR17 HO_6.out).2.1
        have hC58 : Kd.C (Kd.int .i64) _ Ao56 t1125.length t1125 := (rR17 HO_6.out).2.2
        have hcut58 := cut_to (P := Try.prog) 41 3 .i64 Try.underlying41 hi058 Ao56 t1125.length co56 x7_2 (of_decide_eq_true nx_) q58 hroom58
        have hr58 := Kd.C_take (m := (x7_2 : Int).toNat) hC58 (by omega)
        have hy58 : y1128.length = (x7_2 : Int).toNat := (by rw [Ny1128.out, List.length_take]; omega)
        rw [← Ny1128.out] at hr58
        rw [← hy58] at hcut58
        have HR1131 := Aside0.mk hr58
        have HC1131 := Aside0.mk (show y1128.length ≤ co56 from by omega)
        clear hr58 hC58 hroom58 hi058 hsz58
        have KY58 := Aside0.mk hy58
        clear hy58
        have KL58 := Aside0.mk (show (x7_2 : Int).toNat ≤ t1125.length from by omega)
        replace q58 := eq_true q58
        have p1132 : 0 ≤ (x7_2 : Int) := of_decide_eq_true nx_
        have q1132 : x7_2 < (t1125.length : Int) := of_decide_eq_true nx_
        obtain ⟨ad1132, e1132, hx1132_0⟩ := Kd.at_int (rR17 HO_6.out).2.2 x7_2 p1132 q1132
        cases e1132
        replace p1132 := eq_true p1132
        replace q1132 := eq_true q1132
        refine start_ (n := 8) (S := fun w' => w'.cell? (ad1132.add (x7_2).toNat) = some (.int .i64 (rd t1125 x7_2))) (ds := []) z17_14 (by kernel_rfl) rfl rfl (hx1132_0) (fun hHeld => ?_); refine with_tabW laws_FnWalkPlain.tab13 laws_FnWalkPlain.bits13 (fun HT_ HW_ => ?_)
        generalize wr.drew = w57 at HO_4 HO_5 HO_6 HO_1109001 BK1108 HB HR1131 hx1132_0 hHeld ⊢
        refine pu_ 0 74 z17_15 HT_.out ?_
        refine pu_ 1 75 z17_16 HT_.out ?_
        refine pu_ 2 76 z17_17 HT_.out ?_
        refine pu_ 3 77 z17_18 HT_.out ?_
        refine pu_ 4 78 z17_19 HT_.out ?_
        refine pu_ 5 79 z17_20 HT_.out ?_
        refine take_ (i := 6) (N := some 80) (v := ?_) (a' := ?_) z17_21 rfl rfl (take_ofW HT_.out HW_.out (by kernel_rfl)) (fun _ _ _ h => h) (Or.inl ⟨by rfl, ?_⟩) hHeld ?_ ?_
        rotate_left
        ·intro w' s0
         go_simp
         with_reducible rfl
        rotate_left
        ·simp only [Act.put, List.setIfInBounds_toArray, List.set_cons_zero, List.set_cons_succ, i64_w, i32_w]
         rfl
        refine one_ (i := 7) (N := some 81) z17_22 rfl rfl (one_of HT_.out (by kernel_rfl)) (by decide) (fun K hK => ?_)
        refine go_ Try.func58 #[.slice (some ad1132) y1128.length co56, .int .i64 (rd t1125 x7_2)] ?_
        with_reducible refine (laws_wkIn.calls k2 _ _ y1128 (rd t1125 x7_2) true _ ?side1 ?side2 A54.out).mono ?_
        (case side1 => repeat (first | exact (by repeat (first | (with_reducible exact HR1131.out) | (with_reducible refine Kd.C_alloc ?_ _) | (with_reducible refine Kd.C_drewN ?_ _) | (with_reducible refine Kd.C_drew ?_) | exact HR1131.out)) | (with_reducible refine Kd.C_alloc ?_ _) | (with_reducible refine Kd.C_drewN ?_ _) | (with_reducible refine Kd.C_drew ?_)))
        (case side2 => exact HC1131.out)
        rintro e w' ⟨rfl, ⟨nd, rfl⟩⟩
        refine ⟨_, rfl, ?_⟩
        refine hK.out _ _ (hHeld) (fun hHeld => ?_)
        clear hK K
        refine nm1_ (some 81) ?_
        refine done_ (done_of HT_.out (by kernel_rfl)) ?_
        try go_wp2
        go_ret
        exact ⟨nw_, ne_ HB.out⟩
       replace c55 := Bool.eq_false_iff.mpr c55
       subst c55
       have H1 : (laws_FnWalkPlain.l0 k2 t1105 t1109 t1125 (wrap64 (x7_2 + 1)) t1101 t1102) = some r := by rw [if_neg (show ¬ (false = true) by decide)] at H; exact H
       clear H
       have H := H1
       clear H1
       have H' := Aside0.mk H
       clear H
       obtain ⟨Ao59, co59, eo59⟩ := Kd.R_slice HO_6.out
       subst eo59
       try go_wp2
       replace HO_4 := Aside0.mk (rD17 HO_4.out)
       replace HO_5 := Aside0.mk (rD17 HO_5.out)
       replace HO_6 := Aside0.mk (rD17 HO_6.out)
       replace HO_1109001 := Aside0.mk (rD17 HO_1109001.out)
       replace BK1108 := Aside0.mk (blk_drew BK1108.out)
       replace HB := Aside0.mk (below_drew1 HB.out)
       have q61 : (x7_2 : Int) ≤ ((t1125.length : Int) : Int) := of_decide_eq_true nx_
       obtain ⟨i061, hi061, _, hsz61, _⟩ := info_parts info3
       have hroom61 : t1125.length ≤ co59 := (rR17 HO_6.out).2.1
       have hC61 : Kd.C (Kd.int .i64) _ Ao59 t1125.length t1125 := (rR17 HO_6.out).2.2
       have hcut61 := cut_to (P := Try.prog) 41 3 .i64 Try.underlying41 hi061 Ao59 t1125.length co59 x7_2 (of_decide_eq_true nx_) q61 hroom61
       have hr61 := Kd.C_take (m := (x7_2 : Int).toNat) hC61 (by omega)
       have hy61 : y1128.length = (x7_2 : Int).toNat := (by rw [Ny1128.out, List.length_take]; omega)
       rw [← Ny1128.out] at hr61
       rw [← hy61] at hcut61
       have HR1131 := Aside0.mk hr61
       have HC1131 := Aside0.mk (show y1128.length ≤ co59 from by omega)
       clear hr61 hC61 hroom61 hi061 hsz61
       have KY61 := Aside0.mk hy61
       clear hy61
       have KL61 := Aside0.mk (show (x7_2 : Int).toNat ≤ t1125.length from by omega)
       replace q61 := eq_true q61
       have p1132 : 0 ≤ (x7_2 : Int) := of_decide_eq_true nx_
       have q1132 : x7_2 < (t1125.length : Int) := of_decide_eq_true nx_
       obtain ⟨ad1132, e1132, hx1132_0⟩ := Kd.at_int (rR17 HO_6.out).2.2 x7_2 p1132 q1132
       cases e1132
       replace p1132 := eq_true p1132
       replace q1132 := eq_true q1132
       refine start_ (n := 8) (S := fun w' => w'.cell? (ad1132.add (x7_2).toNat) = some (.int .i64 (rd t1125 x7_2))) (ds := []) z17_14 (by kernel_rfl) rfl rfl (hx1132_0) (fun hHeld => ?_); refine with_tabW laws_FnWalkPlain.tab13 laws_FnWalkPlain.bits13 (fun HT_ HW_ => ?_)
       generalize wr.drew = w60 at HO_4 HO_5 HO_6 HO_1109001 BK1108 HB HR1131 hx1132_0 hHeld ⊢
       refine pu_ 0 74 z17_15 HT_.out ?_
       refine pu_ 1 75 z17_16 HT_.out ?_
       refine pu_ 2 76 z17_17 HT_.out ?_
       refine pu_ 3 77 z17_18 HT_.out ?_
       refine pu_ 4 78 z17_19 HT_.out ?_
       refine pu_ 5 79 z17_20 HT_.out ?_
       refine take_ (i := 6) (N := some 80) (v := ?_) (a' := ?_) z17_21 rfl rfl (take_ofW HT_.out HW_.out (by kernel_rfl)) (fun _ _ _ h => h) (Or.inl ⟨by rfl, ?_⟩) hHeld ?_ ?_
       rotate_left
       ·intro w' s0
        go_simp
        with_reducible rfl
       rotate_left
       ·simp only [Act.put, List.setIfInBounds_toArray, List.set_cons_zero, List.set_cons_succ, i64_w, i32_w]
        rfl
       refine one_ (i := 7) (N := some 81) z17_22 rfl rfl (one_of HT_.out (by kernel_rfl)) (by decide) (fun K hK => ?_)
       refine go_ Try.func58 #[.slice (some ad1132) y1128.length co59, .int .i64 (rd t1125 x7_2)] ?_
       with_reducible refine (laws_wkIn.calls k2 _ _ y1128 (rd t1125 x7_2) false _ ?side1 ?side2 A54.out).mono ?_
       (case side1 => repeat (first | exact (by repeat (first | (with_reducible exact HR1131.out) | (with_reducible refine Kd.C_alloc ?_ _) | (with_reducible refine Kd.C_drewN ?_ _) | (with_reducible refine Kd.C_drew ?_) | exact HR1131.out)) | (with_reducible refine Kd.C_alloc ?_ _) | (with_reducible refine Kd.C_drewN ?_ _) | (with_reducible refine Kd.C_drew ?_)))
       (case side2 => exact HC1131.out)
       rintro e w' ⟨rfl, ⟨nd, rfl⟩⟩
       refine ⟨_, rfl, ?_⟩
       refine hK.out _ _ (hHeld) (fun hHeld => ?_)
       clear hK K
       refine nm1_ (some 81) ?_
       refine done_ (done_of HT_.out (by kernel_rfl)) ?_
       try go_wp2
       go_roundg k2
       case measure => have := HJ4.out; have := HK2.out; omega
       case rel => exact ⟨(wrap64 (x7_2 + 1)), ns_, H', ⟨by have := HJ4.out; have := HK2.out; omega⟩, ⟨nr_ HO_4.out⟩, ⟨nr_ HO_5.out⟩, ⟨nr_ HO_6.out⟩, ⟨nr_ HO_1109001.out⟩, ⟨nb_ BK1108.out⟩, ⟨ne_ HB.out⟩⟩
      rw [if_neg c51] at H
      have c51b0 : decide (x7_2 < (t1125.length : Int)) = false := decide_eq_false c51
      clear c51
      replace H := Option.bind_eq_some_iff.mp H
      obtain ⟨t1134, A620, H⟩ := H
      try dsimp only at H
      have A62 := Aside0.mk A620
      clear A620
      replace H := Option.bind_eq_some_iff.mp H
      obtain ⟨t1137, A630, H⟩ := H
      try dsimp only at H
      have A63 := Aside0.mk A630
      clear A630
      by_cases c64 : t1137 = true
      rotate_left
      ·replace c64 := Bool.eq_false_iff.mpr c64
       subst c64
       have H1 : (some false) = some r := by rw [if_neg (show ¬ (false = true) by decide)] at H; exact H
       clear H
       have H := H1
       clear H1
       obtain rfl := Option.some.inj H
       obtain ⟨Ao110, co110, eo110⟩ := Kd.R_slice HO_6.out
       subst eo110
       obtain ⟨hcz111_0, hcz111_1, hfz111_0, hfz111_1⟩ := cz2_ BK1108.out
       try go_wp2_with (first | ((with_reducible refine gate_callee (f := 50) rfl ?_); refine gl_ (some 84) Try.func50 #[.agg #[.int .i64 t1101, .slice Ao9 t1102.length co9], .slice Ao10 t1105.length co10] ?_; (with_reducible refine (impl_WalkNodes.calls k2 t1101 _ _ t1102 _ _ t1105 t1134 _ ?side1 ?side2 ?side3 ?side4 A62.out).mono ?_); (case side1 => exact nc_ (rR17 HO_1109001.out).2.2); (case side2 => exact (rR17 HO_1109001.out).2.1); (case side3 => exact nc_ (rR17 HO_4.out).2.2); (case side4 => exact (rR17 HO_4.out).2.1); rintro e w112 ⟨v1135, rfl, ho0, hb⟩; refine ⟨_, rfl, ?_⟩; have HO1136 := Aside0.mk (Kd.R_lower (Kd.R_new' (Kd.R_new' (Kd.R_new' ho0 (Kd.R_lt (nr_ HO_4.out))) (Kd.R_lt (nr_ HO_5.out))) (Kd.R_lt (nr_ HO_6.out))) (below_size (ne_ HB.out))); replace HO_4 := Aside0.mk (Kd.R_elder' (nr_ HO_4.out) (Kd.R_base ho0) hb); replace HO_5 := Aside0.mk (Kd.R_elder' (nr_ HO_5.out) (Kd.R_base ho0) hb); replace HO_6 := Aside0.mk (Kd.R_elder' (nr_ HO_6.out) (Kd.R_base ho0) hb); replace HO_1109001 := kR_ HO_1109001 hb; replace BK1108 := kb_ BK1108 hb; replace HB := kB_ HB hb; (try clear hb); (try clear hb2); (try clear hk); (try clear hi); (try clear ho0)))
       replace HO_4 := Aside0.mk (rD17 HO_4.out)
       replace HO_5 := Aside0.mk (rD17 HO_5.out)
       replace HO_6 := Aside0.mk (rD17 HO_6.out)
       replace HO_1109001 := Aside0.mk (rD17 HO_1109001.out)
       replace HO1136 := Aside0.mk (rD17 HO1136.out)
       replace BK1108 := Aside0.mk (blk_drew BK1108.out)
       replace HB := Aside0.mk (below_drew1 HB.out)
       refine start_ (n := 44) (S := fun w' => w'.cell? ⟨gb1108, 0, none⟩ = some (.int .i64 t1101) ∧ w'.cell? ⟨gb1108, 1, none⟩ = some (.slice Ao9 t1102.length co9)) (ds := []) z17_23 (by kernel_rfl) rfl rfl ⟨ct_ BK1108.out 0, ct_ BK1108.out 1⟩ (fun hHeld => ?_); refine with_tabW laws_FnWalkPlain.tab16 laws_FnWalkPlain.bits16 (fun HT_ HW_ => ?_)
       generalize w112.drew = w113 at HO_4 HO_5 HO_6 HO_1109001 HO1136 BK1108 HB hHeld ⊢
       refine pu_ 1 86 z17_24 HT_.out ?_
       refine tk_ 0 85 z17_25 HT_.out HW_.out hHeld ?_
       refine one_ (i := 2) (N := some 87) z17_26 rfl rfl (one_of HT_.out (by kernel_rfl)) (by decide) (fun K hK => ?_)
       refine go_ Try.func43 #[.agg #[.int .i64 t1101, .slice Ao9 t1102.length co9], .slice Ao48 t1109.length co48] ?_
       with_reducible refine (impl_WalkOk.calls k2 t1101 _ _ t1102 _ _ t1109 false _ ?side1 ?side2 ?side3 ?side4 A63.out).mono ?_
       (case side1 => exact nc_ (rR17 HO_1109001.out).2.2)
       (case side2 => exact (rR17 HO_1109001.out).2.1)
       (case side3 => exact nc_ (rR17 HO_5.out).2.2)
       (case side4 => exact (rR17 HO_5.out).2.1)
       rintro e w114 ⟨rfl, hb⟩
       refine ⟨_, rfl, ?_⟩
       replace HO_4 := kR_ HO_4 hb
       replace HO_5 := kR_ HO_5 hb
       replace HO_6 := kR_ HO_6 hb
       replace HO_1109001 := kR_ HO_1109001 hb
       replace HO1136 := kR_ HO1136 hb
       replace BK1108 := kb_ BK1108 hb
       replace HB := kB_ HB hb
       (try clear hb)
       (try clear hb2)
       (try clear hk)
       (try clear hi)
       refine hK.out _ _ ⟨ct_ BK1108.out 0, ct_ BK1108.out 1⟩ (fun hHeld => ?_)
       clear hK K
       refine nm1_ (some 87) ?_
       refine pu_ 3 88 z17_27 HT_.out ?_
       refine un_ 4 89 z17_28 HT_.out ?_
       refine un_ 5 90 z17_29 HT_.out ?_
       refine un_ 6 91 (bm_ 44 127) HT_.out ?_
       refine un_ 7 92 (bm_ 44 255) HT_.out ?_
       refine un_ 8 93 z17_32 HT_.out ?_
       refine un_ 9 94 z17_33 HT_.out ?_
       refine un_ 10 95 z17_34 HT_.out ?_
       refine pu_ 11 96 z17_35 HT_.out ?_
       refine pu_ 12 97 z17_36 HT_.out ?_
       refine un_ 13 98 z17_37 HT_.out ?_
       refine un_ 14 99 z17_38 HT_.out ?_
       refine un_ 15 100 z17_39 HT_.out ?_
       refine un_ 16 101 z17_40 HT_.out ?_
       refine un_ 17 102 z17_41 HT_.out ?_
       refine un_ 18 103 z17_72 HT_.out ?_
       refine un_ 19 104 z17_73 HT_.out ?_
       refine un_ 20 105 z17_74 HT_.out ?_
       refine un_ 21 106 z17_75 HT_.out ?_
       refine un_ 22 107 z17_76 HT_.out ?_
       refine un_ 23 108 z17_47 HT_.out ?_
       refine un_ 24 109 z17_48 HT_.out ?_
       refine un_ 25 110 z17_49 HT_.out ?_
       refine pu_ 26 111 z17_50 HT_.out ?_
       refine pu_ 27 112 z17_51 HT_.out ?_
       refine un_ 28 113 z17_68 HT_.out ?_
       refine un_ 29 114 z17_69 HT_.out ?_
       refine un_ 30 115 z17_70 HT_.out ?_
       refine un_ 31 116 z17_71 HT_.out ?_
       refine un_ 32 117 z17_56 HT_.out ?_
       refine un_ 33 118 z17_57 HT_.out ?_
       refine un_ 34 119 z17_58 HT_.out ?_
       refine pu_ 35 120 z17_59 HT_.out ?_
       refine pu_ 36 121 z17_60 HT_.out ?_
       refine un_ 37 122 z17_65 HT_.out ?_
       refine un_ 38 123 z17_66 HT_.out ?_
       refine un_ 39 124 z17_67 HT_.out ?_
       refine un_ 40 125 z17_61 HT_.out ?_
       refine un_ 41 126 z17_62 HT_.out ?_
       refine pu_ 42 127 z17_63 HT_.out ?_
       refine pu_ 43 2 z17_64 HT_.out ?_
       refine done_ (done_of HT_.out (by kernel_rfl)) ?_
       try go_wp2
       go_ret
       exact ⟨nw_, ne_ HB.out⟩

      subst c64
      rw [if_pos rfl] at H
      by_cases c65 : 0 < (t1125.length : Int)
      rotate_left
      ·rw [if_neg c65] at H
       exact absurd H (by simp)
      rw [if_pos c65] at H
      have c65b0 : decide (0 < (t1125.length : Int)) = true := decide_eq_true c65
      have c65b1 : decide (0 < t1125.length) = true := decide_eq_true (by omega)
      clear c65
      by_cases c66 : 0 < (t1134.length : Int)
      rotate_left
      ·rw [if_neg c66] at H
       exact absurd H (by simp)
      rw [if_pos c66] at H
      have c66b0 : decide (0 < (t1134.length : Int)) = true := decide_eq_true c66
      have c66b1 : decide (0 < t1134.length) = true := decide_eq_true (by omega)
      clear c66
      by_cases c67 : (rd t1125 0) = (rd t1134 0)
      rotate_left
      ·rw [if_neg c67] at H
       have c67b0 : ((rd t1125 0) == (rd t1134 0)) = false := beq_eq_false_iff_ne.mpr c67
       have c67b1 : ((rd t1125 0) != (rd t1134 0)) = true := bne_iff_ne.mpr c67
       obtain rfl := Option.some.inj H
       obtain ⟨Ao104, co104, eo104⟩ := Kd.R_slice HO_6.out
       subst eo104
       obtain ⟨hcz105_0, hcz105_1, hfz105_0, hfz105_1⟩ := cz2_ BK1108.out
       try go_wp2_with (first | ((with_reducible refine gate_callee (f := 50) rfl ?_); refine gl_ (some 84) Try.func50 #[.agg #[.int .i64 t1101, .slice Ao9 t1102.length co9], .slice Ao10 t1105.length co10] ?_; (with_reducible refine (impl_WalkNodes.calls k2 t1101 _ _ t1102 _ _ t1105 t1134 _ ?side1 ?side2 ?side3 ?side4 A62.out).mono ?_); (case side1 => exact nc_ (rR17 HO_1109001.out).2.2); (case side2 => exact (rR17 HO_1109001.out).2.1); (case side3 => exact nc_ (rR17 HO_4.out).2.2); (case side4 => exact (rR17 HO_4.out).2.1); rintro e w106 ⟨v1135, rfl, ho0, hb⟩; refine ⟨_, rfl, ?_⟩; have HO1136 := Aside0.mk (Kd.R_lower (Kd.R_new' (Kd.R_new' (Kd.R_new' ho0 (Kd.R_lt (nr_ HO_4.out))) (Kd.R_lt (nr_ HO_5.out))) (Kd.R_lt (nr_ HO_6.out))) (below_size (ne_ HB.out))); replace HO_4 := Aside0.mk (Kd.R_elder' (nr_ HO_4.out) (Kd.R_base ho0) hb); replace HO_5 := Aside0.mk (Kd.R_elder' (nr_ HO_5.out) (Kd.R_base ho0) hb); replace HO_6 := Aside0.mk (Kd.R_elder' (nr_ HO_6.out) (Kd.R_base ho0) hb); replace HO_1109001 := kR_ HO_1109001 hb; replace BK1108 := kb_ BK1108 hb; replace HB := kB_ HB hb; (try clear hb); (try clear hb2); (try clear hk); (try clear hi); (try clear ho0)))
       replace HO_4 := Aside0.mk (rD17 HO_4.out)
       replace HO_5 := Aside0.mk (rD17 HO_5.out)
       replace HO_6 := Aside0.mk (rD17 HO_6.out)
       replace HO_1109001 := Aside0.mk (rD17 HO_1109001.out)
       replace HO1136 := Aside0.mk (rD17 HO1136.out)
       replace BK1108 := Aside0.mk (blk_drew BK1108.out)
       replace HB := Aside0.mk (below_drew1 HB.out)
       have p1138 : 0 ≤ (0 : Int) := (by omega)
       have q1138 : 0 < (t1125.length : Int) := of_decide_eq_true nx_
       obtain ⟨ad1138, e1138, hx1138_0⟩ := Kd.at_int (rR17 HO_6.out).2.2 0 p1138 q1138
       cases e1138
       have qi1138 : (0 < t1125.length) = True := eq_true (by omega)
       (try rw [show ((0 : Int)).toNat = 0 from rfl] at hx1138_0)
       (try rw [Addr.add_zero'] at hx1138_0)
       replace p1138 := eq_true p1138
       replace q1138 := eq_true q1138
       have p1139 : 0 ≤ (0 : Int) := (by omega)
       have q1139 : 0 < (t1134.length : Int) := of_decide_eq_true nx_
       obtain ⟨Ao_HO1136, co_HO1136, eo_HO1136⟩ := Kd.R_slice HO1136.out
       subst eo_HO1136
       obtain ⟨ad1139, e1139, hx1139_0⟩ := Kd.at_int (rR17 HO1136.out).2.2 0 p1139 q1139
       cases e1139
       have qi1139 : (0 < t1134.length) = True := eq_true (by omega)
       (try rw [show ((0 : Int)).toNat = 0 from rfl] at hx1139_0)
       (try rw [Addr.add_zero'] at hx1139_0)
       replace p1139 := eq_true p1139
       replace q1139 := eq_true q1139
       refine start_ (n := 44) (S := fun w' => w'.cell? ⟨gb1108, 0, none⟩ = some (.int .i64 t1101) ∧ w'.cell? ⟨gb1108, 1, none⟩ = some (.slice Ao9 t1102.length co9) ∧ w'.cell? ad1138 = some (.int .i64 (rd t1125 0)) ∧ w'.cell? ad1139 = some (.int .i64 (rd t1134 0))) (ds := []) z17_23 (by kernel_rfl) rfl rfl ⟨ct_ BK1108.out 0, ct_ BK1108.out 1, hx1138_0, hx1139_0⟩ (fun hHeld => ?_); refine with_tabW laws_FnWalkPlain.tab16 laws_FnWalkPlain.bits16 (fun HT_ HW_ => ?_)
       generalize w106.drew = w107 at HO_4 HO_5 HO_6 HO_1109001 HO1136 BK1108 HB hx1138_0 hx1139_0 hHeld ⊢
       refine pu_ 1 86 z17_24 HT_.out ?_
       refine tk_ 0 85 z17_25 HT_.out HW_.out hHeld ?_
       refine one_ (i := 2) (N := some 87) z17_26 rfl rfl (one_of HT_.out (by kernel_rfl)) (by decide) (fun K hK => ?_)
       refine go_ Try.func43 #[.agg #[.int .i64 t1101, .slice Ao9 t1102.length co9], .slice Ao48 t1109.length co48] ?_
       with_reducible refine (impl_WalkOk.calls k2 t1101 _ _ t1102 _ _ t1109 true _ ?side1 ?side2 ?side3 ?side4 A63.out).mono ?_
       (case side1 => exact nc_ (rR17 HO_1109001.out).2.2)
       (case side2 => exact (rR17 HO_1109001.out).2.1)
       (case side3 => exact nc_ (rR17 HO_5.out).2.2)
       (case side4 => exact (rR17 HO_5.out).2.1)
       rintro e w108 ⟨rfl, hb⟩
       have HS2_ := (hb.cell (World.block_lt_of_cell? _ _ (hHeld.2.2.1))).trans (hHeld.2.2.1)
       have HS3_ := (hb.cell (World.block_lt_of_cell? _ _ (hHeld.2.2.2))).trans (hHeld.2.2.2)
       refine ⟨_, rfl, ?_⟩
       replace HO_4 := kR_ HO_4 hb
       replace HO_5 := kR_ HO_5 hb
       replace HO_6 := kR_ HO_6 hb
       replace HO_1109001 := kR_ HO_1109001 hb
       replace HO1136 := kR_ HO1136 hb
       replace BK1108 := kb_ BK1108 hb
       replace HB := kB_ HB hb
       (try clear hb)
       (try clear hb2)
       (try clear hk)
       (try clear hi)
       obtain ⟨Ao109, co109, eo109⟩ := Kd.R_slice HO1136.out
       (first | subst eo109 | (injection eo109 with f1_ f2_ f3_; have f4_ := f1_.symm; have f5_ := f3_.symm; clear f1_ f2_ f3_; subst f4_; subst f5_))
       refine hK.out _ _ ⟨ct_ BK1108.out 0, ct_ BK1108.out 1, HS2_, HS3_⟩ (fun hHeld => ?_)
       clear hK K
       refine nm1_ (some 87) ?_
       refine pu_ 3 88 z17_27 HT_.out ?_
       refine pu_ 4 89 z17_28 HT_.out ?_
       refine pu_ 5 90 z17_29 HT_.out ?_
       refine pu_ 7 92 z17_30 HT_.out ?_
       refine pu_ 8 93 z17_31 HT_.out ?_
       refine tk_ 6 91 z17_32 HT_.out HW_.out hHeld ?_
       refine tk_ 9 94 z17_33 HT_.out HW_.out hHeld ?_
       refine pu_ 10 95 z17_34 HT_.out ?_
       refine pu_ 11 96 z17_35 HT_.out ?_
       refine pu_ 12 97 z17_36 HT_.out ?_
       refine un_ 13 98 z17_37 HT_.out ?_
       refine un_ 14 99 z17_38 HT_.out ?_
       refine un_ 15 100 z17_39 HT_.out ?_
       refine un_ 16 101 z17_40 HT_.out ?_
       refine un_ 17 102 z17_41 HT_.out ?_
       refine un_ 18 103 z17_72 HT_.out ?_
       refine un_ 19 104 z17_73 HT_.out ?_
       refine un_ 20 105 z17_74 HT_.out ?_
       refine un_ 21 106 z17_75 HT_.out ?_
       refine un_ 22 107 z17_76 HT_.out ?_
       refine un_ 23 108 z17_47 HT_.out ?_
       refine un_ 24 109 z17_48 HT_.out ?_
       refine un_ 25 110 z17_49 HT_.out ?_
       refine pu_ 26 111 z17_50 HT_.out ?_
       refine pu_ 27 112 z17_51 HT_.out ?_
       refine un_ 28 113 z17_68 HT_.out ?_
       refine un_ 29 114 z17_69 HT_.out ?_
       refine un_ 30 115 z17_70 HT_.out ?_
       refine un_ 31 116 z17_71 HT_.out ?_
       refine un_ 32 117 z17_56 HT_.out ?_
       refine un_ 33 118 z17_57 HT_.out ?_
       refine un_ 34 119 z17_58 HT_.out ?_
       refine pu_ 35 120 z17_59 HT_.out ?_
       refine pu_ 36 121 z17_60 HT_.out ?_
       refine un_ 37 122 z17_65 HT_.out ?_
       refine un_ 38 123 z17_66 HT_.out ?_
       refine un_ 39 124 z17_67 HT_.out ?_
       refine un_ 40 125 z17_61 HT_.out ?_
       refine un_ 41 126 z17_62 HT_.out ?_
       refine pu_ 42 127 z17_63 HT_.out ?_
       refine pu_ 43 2 z17_64 HT_.out ?_
       refine done_ (done_of HT_.out (by kernel_rfl)) ?_
       try go_wp2
       go_ret
       exact ⟨nw_, ne_ HB.out⟩
      rw [if_pos c67] at H
      have c67b0 : ((rd t1125 0) == (rd t1134 0)) = true := beq_iff_eq.mpr c67
      have c67b1 : ((rd t1125 0) != (rd t1134 0)) = false := bne_eq_false_iff_eq.mpr c67
      clear c67
      obtain ⟨ji68, hji68⟩ : ∃ j_ : Int, (wrap64 ((t1125.length : Int) - 1)) = j_ := ⟨_, rfl⟩
      replace H : (if 0 ≤ (ji68) then (if (ji68) < (t1125.length : Int) then (if 0 ≤ (wrap64 ((t1134.length : Int) - 1)) then (if (wrap64 ((t1134.length : Int) - 1)) < (t1134.length : Int) then (if (rd t1125 (ji68)) = (rd t1134 (wrap64 ((t1134.length : Int) - 1))) then ((impl_WalkCost.f k2 t1101 t1102 t1109).bind fun t1142 => ((impl_WalkCost.f k2 t1101 t1102 t1105).bind fun t1143 => (if t1142 ≤ t1143 then ((impl_WalkPlain.f k2 t1101 t1102 t1109).bind fun t1144 => ((laws_wkInts.f k2 t1144 t1109).bind fun t1147 => (some t1147))) else (some false)))) else (some false)) else (none)) else (none)) else (none)) else (none)) = some r := by first | (rw [hji68] at H; exact H) | (simp only [hji68] at H ⊢; exact H)
      (try rw [hji68] at A62)
      (try rw [hji68] at A63)
      have hji68w : (IntKind.i64.wrap ((t1125.length : Int) - 1)) = ji68 := (i64_w _).trans hji68
      by_cases c69 : 0 ≤ (ji68)
      rotate_left
      ·rw [if_neg c69] at H
       exact absurd H (by simp)
      rw [if_pos c69] at H
      have c69b0 : decide (0 ≤ (ji68)) = true := decide_eq_true c69
      clear c69
      by_cases c70 : (ji68) < (t1125.length : Int)
      rotate_left
      ·rw [if_neg c70] at H
       exact absurd H (by simp)
      rw [if_pos c70] at H
      have c70b0 : decide ((ji68) < (t1125.length : Int)) = true := decide_eq_true c70
      clear c70
      obtain ⟨ji71, hji71⟩ : ∃ j_ : Int, (wrap64 ((t1134.length : Int) - 1)) = j_ := ⟨_, rfl⟩
      replace H : (if 0 ≤ (ji71) then (if (ji71) < (t1134.length : Int) then (if (rd t1125 (ji68)) = (rd t1134 (ji71)) then ((impl_WalkCost.f k2 t1101 t1102 t1109).bind fun t1142 => ((impl_WalkCost.f k2 t1101 t1102 t1105).bind fun t1143 => (if t1142 ≤ t1143 then ((impl_WalkPlain.f k2 t1101 t1102 t1109).bind fun t1144 => ((laws_wkInts.f k2 t1144 t1109).bind fun t1147 => (some t1147))) else (some false)))) else (some false)) else (none)) else (none)) = some r := by first | (rw [hji71] at H; exact H) | (simp only [hji71] at H ⊢; exact H)
      (try rw [hji71] at A62)
      (try rw [hji71] at A63)
      have hji71w : (IntKind.i64.wrap ((t1134.length : Int) - 1)) = ji71 := (i64_w _).trans hji71
      by_cases c72 : 0 ≤ (ji71)
      rotate_left
      ·rw [if_neg c72] at H
       exact absurd H (by simp)
      rw [if_pos c72] at H
      have c72b0 : decide (0 ≤ (ji71)) = true := decide_eq_true c72
      clear c72
      by_cases c73 : (ji71) < (t1134.length : Int)
      rotate_left
      ·rw [if_neg c73] at H
       exact absurd H (by simp)
      rw [if_pos c73] at H
      have c73b0 : decide ((ji71) < (t1134.length : Int)) = true := decide_eq_true c73
      clear c73
      by_cases c74 : (rd t1125 (ji68)) = (rd t1134 (ji71))
      rotate_left
      ·rw [if_neg c74] at H
       have c74b0 : ((rd t1125 (ji68)) == (rd t1134 (ji71))) = false := beq_eq_false_iff_ne.mpr c74
       have c74b1 : ((rd t1125 (ji68)) != (rd t1134 (ji71))) = true := bne_iff_ne.mpr c74
       obtain rfl := Option.some.inj H
       obtain ⟨Ao98, co98, eo98⟩ := Kd.R_slice HO_6.out
       subst eo98
       obtain ⟨hcz99_0, hcz99_1, hfz99_0, hfz99_1⟩ := cz2_ BK1108.out
       try go_wp2_with (first | ((with_reducible refine gate_callee (f := 50) rfl ?_); refine gl_ (some 84) Try.func50 #[.agg #[.int .i64 t1101, .slice Ao9 t1102.length co9], .slice Ao10 t1105.length co10] ?_; (with_reducible refine (impl_WalkNodes.calls k2 t1101 _ _ t1102 _ _ t1105 t1134 _ ?side1 ?side2 ?side3 ?side4 A62.out).mono ?_); (case side1 => exact nc_ (rR17 HO_1109001.out).2.2); (case side2 => exact (rR17 HO_1109001.out).2.1); (case side3 => exact nc_ (rR17 HO_4.out).2.2); (case side4 => exact (rR17 HO_4.out).2.1); rintro e w100 ⟨v1135, rfl, ho0, hb⟩; refine ⟨_, rfl, ?_⟩; have HO1136 := Aside0.mk (Kd.R_lower (Kd.R_new' (Kd.R_new' (Kd.R_new' ho0 (Kd.R_lt (nr_ HO_4.out))) (Kd.R_lt (nr_ HO_5.out))) (Kd.R_lt (nr_ HO_6.out))) (below_size (ne_ HB.out))); replace HO_4 := Aside0.mk (Kd.R_elder' (nr_ HO_4.out) (Kd.R_base ho0) hb); replace HO_5 := Aside0.mk (Kd.R_elder' (nr_ HO_5.out) (Kd.R_base ho0) hb); replace HO_6 := Aside0.mk (Kd.R_elder' (nr_ HO_6.out) (Kd.R_base ho0) hb); replace HO_1109001 := kR_ HO_1109001 hb; replace BK1108 := kb_ BK1108 hb; replace HB := kB_ HB hb; (try clear hb); (try clear hb2); (try clear hk); (try clear hi); (try clear ho0)))
       replace HO_4 := Aside0.mk (rD17 HO_4.out)
       replace HO_5 := Aside0.mk (rD17 HO_5.out)
       replace HO_6 := Aside0.mk (rD17 HO_6.out)
       replace HO_1109001 := Aside0.mk (rD17 HO_1109001.out)
       replace HO1136 := Aside0.mk (rD17 HO1136.out)
       replace BK1108 := Aside0.mk (blk_drew BK1108.out)
       replace HB := Aside0.mk (below_drew1 HB.out)
       have p1138 : 0 ≤ (0 : Int) := (by omega)
       have q1138 : 0 < (t1125.length : Int) := of_decide_eq_true nx_
       obtain ⟨ad1138, e1138, hx1138_0⟩ := Kd.at_int (rR17 HO_6.out).2.2 0 p1138 q1138
       cases e1138
       have qi1138 : (0 < t1125.length) = True := eq_true (by omega)
       (try rw [show ((0 : Int)).toNat = 0 from rfl] at hx1138_0)
       (try rw [Addr.add_zero'] at hx1138_0)
       replace p1138 := eq_true p1138
       replace q1138 := eq_true q1138
       have p1139 : 0 ≤ (0 : Int) := (by omega)
       have q1139 : 0 < (t1134.length : Int) := of_decide_eq_true nx_
       obtain ⟨Ao_HO1136, co_HO1136, eo_HO1136⟩ := Kd.R_slice HO1136.out
       subst eo_HO1136
       obtain ⟨ad1139, e1139, hx1139_0⟩ := Kd.at_int (rR17 HO1136.out).2.2 0 p1139 q1139
       cases e1139
       have qi1139 : (0 < t1134.length) = True := eq_true (by omega)
       (try rw [show ((0 : Int)).toNat = 0 from rfl] at hx1139_0)
       (try rw [Addr.add_zero'] at hx1139_0)
       replace p1139 := eq_true p1139
       replace q1139 := eq_true q1139
       have p1140 : 0 ≤ ((ji68) : Int) := of_decide_eq_true nx_
       have q1140 : (ji68) < (t1125.length : Int) := of_decide_eq_true nx_
       obtain ⟨ad1140, e1140, hx1140_0⟩ := Kd.at_int (rR17 HO_6.out).2.2 (ji68) p1140 q1140
       obtain rfl : ad1138 = ad1140 := (by injection e1140)
       replace p1140 := eq_true p1140
       replace q1140 := eq_true q1140
       have p1141 : 0 ≤ ((ji71) : Int) := of_decide_eq_true nx_
       have q1141 : (ji71) < (t1134.length : Int) := of_decide_eq_true nx_
       obtain ⟨ad1141, e1141, hx1141_0⟩ := Kd.at_int (rR17 HO1136.out).2.2 (ji71) p1141 q1141
       obtain rfl : ad1139 = ad1141 := (by injection e1141)
       replace p1141 := eq_true p1141
       replace q1141 := eq_true q1141
       refine start_ (n := 44) (S := fun w' => w'.cell? ⟨gb1108, 0, none⟩ = some (.int .i64 t1101) ∧ w'.cell? ⟨gb1108, 1, none⟩ = some (.slice Ao9 t1102.length co9) ∧ w'.cell? ad1138 = some (.int .i64 (rd t1125 0)) ∧ w'.cell? ad1139 = some (.int .i64 (rd t1134 0)) ∧ w'.cell? (ad1138.add ((ji68)).toNat) = some (.int .i64 (rd t1125 (ji68))) ∧ w'.cell? (ad1139.add ((ji71)).toNat) = some (.int .i64 (rd t1134 (ji71)))) (ds := []) z17_23 (by kernel_rfl) rfl rfl ⟨ct_ BK1108.out 0, ct_ BK1108.out 1, hx1138_0, hx1139_0, hx1140_0, hx1141_0⟩ (fun hHeld => ?_); refine with_tabW laws_FnWalkPlain.tab16 laws_FnWalkPlain.bits16 (fun HT_ HW_ => ?_)
       generalize w100.drew = w101 at HO_4 HO_5 HO_6 HO_1109001 HO1136 BK1108 HB hx1138_0 hx1139_0 hx1140_0 hx1141_0 hHeld ⊢
       refine pu_ 1 86 z17_24 HT_.out ?_
       refine tk_ 0 85 z17_25 HT_.out HW_.out hHeld ?_
       refine one_ (i := 2) (N := some 87) z17_26 rfl rfl (one_of HT_.out (by kernel_rfl)) (by decide) (fun K hK => ?_)
       refine go_ Try.func43 #[.agg #[.int .i64 t1101, .slice Ao9 t1102.length co9], .slice Ao48 t1109.length co48] ?_
       with_reducible refine (impl_WalkOk.calls k2 t1101 _ _ t1102 _ _ t1109 true _ ?side1 ?side2 ?side3 ?side4 A63.out).mono ?_
       (case side1 => exact nc_ (rR17 HO_1109001.out).2.2)
       (case side2 => exact (rR17 HO_1109001.out).2.1)
       (case side3 => exact nc_ (rR17 HO_5.out).2.2)
       (case side4 => exact (rR17 HO_5.out).2.1)
       rintro e w102 ⟨rfl, hb⟩
       have HS2_ := (hb.cell (World.block_lt_of_cell? _ _ (hHeld.2.2.1))).trans (hHeld.2.2.1)
       have HS3_ := (hb.cell (World.block_lt_of_cell? _ _ (hHeld.2.2.2.1))).trans (hHeld.2.2.2.1)
       have HS4_ := (hb.cell (World.block_lt_of_cell? _ _ (hHeld.2.2.2.2.1))).trans (hHeld.2.2.2.2.1)
       have HS5_ := (hb.cell (World.block_lt_of_cell? _ _ (hHeld.2.2.2.2.2))).trans (hHeld.2.2.2.2.2)
       refine ⟨_, rfl, ?_⟩
       replace HO_4 := kR_ HO_4 hb
       replace HO_5 := kR_ HO_5 hb
       replace HO_6 := kR_ HO_6 hb
       replace HO_1109001 := kR_ HO_1109001 hb
       replace HO1136 := kR_ HO1136 hb
       replace BK1108 := kb_ BK1108 hb
       replace HB := kB_ HB hb
       (try clear hb)
       (try clear hb2)
       (try clear hk)
       (try clear hi)
       obtain ⟨Ao103, co103, eo103⟩ := Kd.R_slice HO1136.out
       (first | subst eo103 | (injection eo103 with f1_ f2_ f3_; have f4_ := f1_.symm; have f5_ := f3_.symm; clear f1_ f2_ f3_; subst f4_; subst f5_))
       refine hK.out _ _ ⟨ct_ BK1108.out 0, ct_ BK1108.out 1, HS2_, HS3_, HS4_, HS5_⟩ (fun hHeld => ?_)
       clear hK K
       refine nm1_ (some 87) ?_
       refine pu_ 3 88 z17_27 HT_.out ?_
       refine pu_ 4 89 z17_28 HT_.out ?_
       refine pu_ 5 90 z17_29 HT_.out ?_
       refine pu_ 7 92 z17_30 HT_.out ?_
       refine pu_ 8 93 z17_31 HT_.out ?_
       refine tk_ 6 91 z17_32 HT_.out HW_.out hHeld ?_
       refine tk_ 9 94 z17_33 HT_.out HW_.out hHeld ?_
       refine pu_ 10 95 z17_34 HT_.out ?_
       refine pu_ 11 96 z17_35 HT_.out ?_
       refine pu_ 12 97 z17_36 HT_.out ?_
       refine pu_ 13 98 z17_37 HT_.out ?_
       refine pu_ 14 99 z17_38 HT_.out ?_
       refine pu_ 15 100 z17_39 HT_.out ?_
       refine pu_ 16 101 z17_40 HT_.out ?_
       refine pu_ 17 102 z17_41 HT_.out ?_
       refine pu_ 19 104 z17_42 HT_.out ?_
       refine pu_ 20 105 z17_43 HT_.out ?_
       refine pu_ 21 106 z17_44 HT_.out ?_
       refine pu_ 22 107 z17_45 HT_.out ?_
       refine pu_ 23 108 z17_46 HT_.out ?_
       refine tk_ 18 103 z17_47 HT_.out HW_.out hHeld ?_
       refine tk_ 24 109 z17_48 HT_.out HW_.out hHeld ?_
       refine pu_ 25 110 z17_49 HT_.out ?_
       refine pu_ 26 111 z17_50 HT_.out ?_
       refine pu_ 27 112 z17_51 HT_.out ?_
       refine un_ 28 113 z17_68 HT_.out ?_
       refine un_ 29 114 z17_69 HT_.out ?_
       refine un_ 30 115 z17_70 HT_.out ?_
       refine un_ 31 116 z17_71 HT_.out ?_
       refine un_ 32 117 z17_56 HT_.out ?_
       refine un_ 33 118 z17_57 HT_.out ?_
       refine un_ 34 119 z17_58 HT_.out ?_
       refine pu_ 35 120 z17_59 HT_.out ?_
       refine pu_ 36 121 z17_60 HT_.out ?_
       refine un_ 37 122 z17_65 HT_.out ?_
       refine un_ 38 123 z17_66 HT_.out ?_
       refine un_ 39 124 z17_67 HT_.out ?_
       refine un_ 40 125 z17_61 HT_.out ?_
       refine un_ 41 126 z17_62 HT_.out ?_
       refine pu_ 42 127 z17_63 HT_.out ?_
       refine pu_ 43 2 z17_64 HT_.out ?_
       refine done_ (done_of HT_.out (by kernel_rfl)) ?_
       try go_wp2
       go_ret
       exact ⟨by first | rfl | (simp [errW_none, errW_some] <;> rfl) | (simp only [← hji68, ← hji71]; first | rfl | (simp [errW_none, errW_some] <;> rfl)) | (simp [*, errW_none, errW_some] <;> rfl), ne_ HB.out⟩
      rw [if_pos c74] at H
      have c74b0 : ((rd t1125 (ji68)) == (rd t1134 (ji71))) = true := beq_iff_eq.mpr c74
      have c74b1 : ((rd t1125 (ji68)) != (rd t1134 (ji71))) = false := bne_eq_false_iff_eq.mpr c74
      clear c74
      replace H := Option.bind_eq_some_iff.mp H
      obtain ⟨t1142, A750, H⟩ := H
      try dsimp only at H
      have A75 := Aside0.mk A750
      clear A750
      replace H := Option.bind_eq_some_iff.mp H
      obtain ⟨t1143, A760, H⟩ := H
      try dsimp only at H
      have A76 := Aside0.mk A760
      clear A760
      by_cases c77 : t1142 ≤ t1143
      rotate_left
      ·rw [if_neg c77] at H
       have c77b0 : decide (t1142 ≤ t1143) = false := decide_eq_false c77
       clear c77
       obtain rfl := Option.some.inj H
       obtain ⟨Ao90, co90, eo90⟩ := Kd.R_slice HO_6.out
       subst eo90
       obtain ⟨hcz91_0, hcz91_1, hfz91_0, hfz91_1⟩ := cz2_ BK1108.out
       try go_wp2_with (first | ((with_reducible refine gate_callee (f := 50) rfl ?_); refine gl_ (some 84) Try.func50 #[.agg #[.int .i64 t1101, .slice Ao9 t1102.length co9], .slice Ao10 t1105.length co10] ?_; (with_reducible refine (impl_WalkNodes.calls k2 t1101 _ _ t1102 _ _ t1105 t1134 _ ?side1 ?side2 ?side3 ?side4 A62.out).mono ?_); (case side1 => exact nc_ (rR17 HO_1109001.out).2.2); (case side2 => exact (rR17 HO_1109001.out).2.1); (case side3 => exact nc_ (rR17 HO_4.out).2.2); (case side4 => exact (rR17 HO_4.out).2.1); rintro e w92 ⟨v1135, rfl, ho0, hb⟩; refine ⟨_, rfl, ?_⟩; have HO1136 := Aside0.mk (Kd.R_lower (Kd.R_new' (Kd.R_new' (Kd.R_new' ho0 (Kd.R_lt (nr_ HO_4.out))) (Kd.R_lt (nr_ HO_5.out))) (Kd.R_lt (nr_ HO_6.out))) (below_size (ne_ HB.out))); replace HO_4 := Aside0.mk (Kd.R_elder' (nr_ HO_4.out) (Kd.R_base ho0) hb); replace HO_5 := Aside0.mk (Kd.R_elder' (nr_ HO_5.out) (Kd.R_base ho0) hb); replace HO_6 := Aside0.mk (Kd.R_elder' (nr_ HO_6.out) (Kd.R_base ho0) hb); replace HO_1109001 := kR_ HO_1109001 hb; replace BK1108 := kb_ BK1108 hb; replace HB := kB_ HB hb; (try clear hb); (try clear hb2); (try clear hk); (try clear hi); (try clear ho0)))
       replace HO_4 := Aside0.mk (rD17 HO_4.out)
       replace HO_5 := Aside0.mk (rD17 HO_5.out)
       replace HO_6 := Aside0.mk (rD17 HO_6.out)
       replace HO_1109001 := Aside0.mk (rD17 HO_1109001.out)
       replace HO1136 := Aside0.mk (rD17 HO1136.out)
       replace BK1108 := Aside0.mk (blk_drew BK1108.out)
       replace HB := Aside0.mk (below_drew1 HB.out)
       have p1138 : 0 ≤ (0 : Int) := (by omega)
       have q1138 : 0 < (t1125.length : Int) := of_decide_eq_true nx_
       obtain ⟨ad1138, e1138, hx1138_0⟩ := Kd.at_int (rR17 HO_6.out).2.2 0 p1138 q1138
       cases e1138
       have qi1138 : (0 < t1125.length) = True := eq_true (by omega)
       (try rw [show ((0 : Int)).toNat = 0 from rfl] at hx1138_0)
       (try rw [Addr.add_zero'] at hx1138_0)
       replace p1138 := eq_true p1138
       replace q1138 := eq_true q1138
       have p1139 : 0 ≤ (0 : Int) := (by omega)
       have q1139 : 0 < (t1134.length : Int) := of_decide_eq_true nx_
       obtain ⟨Ao_HO1136, co_HO1136, eo_HO1136⟩ := Kd.R_slice HO1136.out
       subst eo_HO1136
       obtain ⟨ad1139, e1139, hx1139_0⟩ := Kd.at_int (rR17 HO1136.out).2.2 0 p1139 q1139
       cases e1139
       have qi1139 : (0 < t1134.length) = True := eq_true (by omega)
       (try rw [show ((0 : Int)).toNat = 0 from rfl] at hx1139_0)
       (try rw [Addr.add_zero'] at hx1139_0)
       replace p1139 := eq_true p1139
       replace q1139 := eq_true q1139
       have p1140 : 0 ≤ ((ji68) : Int) := of_decide_eq_true nx_
       have q1140 : (ji68) < (t1125.length : Int) := of_decide_eq_true nx_
       obtain ⟨ad1140, e1140, hx1140_0⟩ := Kd.at_int (rR17 HO_6.out).2.2 (ji68) p1140 q1140
       obtain rfl : ad1138 = ad1140 := (by injection e1140)
       replace p1140 := eq_true p1140
       replace q1140 := eq_true q1140
       have p1141 : 0 ≤ ((ji71) : Int) := of_decide_eq_true nx_
       have q1141 : (ji71) < (t1134.length : Int) := of_decide_eq_true nx_
       obtain ⟨ad1141, e1141, hx1141_0⟩ := Kd.at_int (rR17 HO1136.out).2.2 (ji71) p1141 q1141
       obtain rfl : ad1139 = ad1141 := (by injection e1141)
       replace p1141 := eq_true p1141
       replace q1141 := eq_true q1141
       refine start_ (n := 44) (S := fun w' => w'.cell? ⟨gb1108, 0, none⟩ = some (.int .i64 t1101) ∧ w'.cell? ⟨gb1108, 1, none⟩ = some (.slice Ao9 t1102.length co9) ∧ w'.cell? ad1138 = some (.int .i64 (rd t1125 0)) ∧ w'.cell? ad1139 = some (.int .i64 (rd t1134 0)) ∧ w'.cell? (ad1138.add ((ji68)).toNat) = some (.int .i64 (rd t1125 (ji68))) ∧ w'.cell? (ad1139.add ((ji71)).toNat) = some (.int .i64 (rd t1134 (ji71)))) (ds := []) z17_23 (by kernel_rfl) rfl rfl ⟨ct_ BK1108.out 0, ct_ BK1108.out 1, hx1138_0, hx1139_0, hx1140_0, hx1141_0⟩ (fun hHeld => ?_); refine with_tabW laws_FnWalkPlain.tab16 laws_FnWalkPlain.bits16 (fun HT_ HW_ => ?_)
       generalize w92.drew = w93 at HO_4 HO_5 HO_6 HO_1109001 HO1136 BK1108 HB hx1138_0 hx1139_0 hx1140_0 hx1141_0 hHeld ⊢
       refine pu_ 1 86 z17_24 HT_.out ?_
       refine tk_ 0 85 z17_25 HT_.out HW_.out hHeld ?_
       refine one_ (i := 2) (N := some 87) z17_26 rfl rfl (one_of HT_.out (by kernel_rfl)) (by decide) (fun K hK => ?_)
       refine go_ Try.func43 #[.agg #[.int .i64 t1101, .slice Ao9 t1102.length co9], .slice Ao48 t1109.length co48] ?_
       with_reducible refine (impl_WalkOk.calls k2 t1101 _ _ t1102 _ _ t1109 true _ ?side1 ?side2 ?side3 ?side4 A63.out).mono ?_
       (case side1 => exact nc_ (rR17 HO_1109001.out).2.2)
       (case side2 => exact (rR17 HO_1109001.out).2.1)
       (case side3 => exact nc_ (rR17 HO_5.out).2.2)
       (case side4 => exact (rR17 HO_5.out).2.1)
       rintro e w94 ⟨rfl, hb⟩
       have HS2_ := (hb.cell (World.block_lt_of_cell? _ _ (hHeld.2.2.1))).trans (hHeld.2.2.1)
       have HS3_ := (hb.cell (World.block_lt_of_cell? _ _ (hHeld.2.2.2.1))).trans (hHeld.2.2.2.1)
       have HS4_ := (hb.cell (World.block_lt_of_cell? _ _ (hHeld.2.2.2.2.1))).trans (hHeld.2.2.2.2.1)
       have HS5_ := (hb.cell (World.block_lt_of_cell? _ _ (hHeld.2.2.2.2.2))).trans (hHeld.2.2.2.2.2)
       refine ⟨_, rfl, ?_⟩
       replace HO_4 := kR_ HO_4 hb
       replace HO_5 := kR_ HO_5 hb
       replace HO_6 := kR_ HO_6 hb
       replace HO_1109001 := kR_ HO_1109001 hb
       replace HO1136 := kR_ HO1136 hb
       replace BK1108 := kb_ BK1108 hb
       replace HB := kB_ HB hb
       (try clear hb)
       (try clear hb2)
       (try clear hk)
       (try clear hi)
       obtain ⟨Ao95, co95, eo95⟩ := Kd.R_slice HO1136.out
       (first | subst eo95 | (injection eo95 with f1_ f2_ f3_; have f4_ := f1_.symm; have f5_ := f3_.symm; clear f1_ f2_ f3_; subst f4_; subst f5_))
       refine hK.out _ _ ⟨ct_ BK1108.out 0, ct_ BK1108.out 1, HS2_, HS3_, HS4_, HS5_⟩ (fun hHeld => ?_)
       clear hK K
       refine nm1_ (some 87) ?_
       refine pu_ 3 88 z17_27 HT_.out ?_
       refine pu_ 4 89 z17_28 HT_.out ?_
       refine pu_ 5 90 z17_29 HT_.out ?_
       refine pu_ 7 92 z17_30 HT_.out ?_
       refine pu_ 8 93 z17_31 HT_.out ?_
       refine tk_ 6 91 z17_32 HT_.out HW_.out hHeld ?_
       refine tk_ 9 94 z17_33 HT_.out HW_.out hHeld ?_
       refine pu_ 10 95 z17_34 HT_.out ?_
       refine pu_ 11 96 z17_35 HT_.out ?_
       refine pu_ 12 97 z17_36 HT_.out ?_
       refine pu_ 13 98 z17_37 HT_.out ?_
       refine pu_ 14 99 z17_38 HT_.out ?_
       refine pu_ 15 100 z17_39 HT_.out ?_
       refine pu_ 16 101 z17_40 HT_.out ?_
       refine pu_ 17 102 z17_41 HT_.out ?_
       refine pu_ 19 104 z17_42 HT_.out ?_
       refine pu_ 20 105 z17_43 HT_.out ?_
       refine pu_ 21 106 z17_44 HT_.out ?_
       refine pu_ 22 107 z17_45 HT_.out ?_
       refine pu_ 23 108 z17_46 HT_.out ?_
       refine tk_ 18 103 z17_47 HT_.out HW_.out hHeld ?_
       refine tk_ 24 109 z17_48 HT_.out HW_.out hHeld ?_
       refine pu_ 25 110 z17_49 HT_.out ?_
       refine pu_ 26 111 z17_50 HT_.out ?_
       refine pu_ 27 112 z17_51 HT_.out ?_
       refine pu_ 29 114 z17_52 HT_.out ?_
       refine pu_ 32 117 z17_53 HT_.out ?_
       refine tk_ 28 113 z17_54 HT_.out HW_.out hHeld ?_
       refine tk_ 31 116 z17_55 HT_.out HW_.out hHeld ?_
       refine one_ (i := 30) (N := some 115) z17_56 rfl rfl (one_of HT_.out (by kernel_rfl)) (by decide) (fun K hK => ?_)
       refine go_ Try.func47 #[.agg #[.int .i64 t1101, .slice Ao9 t1102.length co9], .slice Ao48 t1109.length co48] ?_
       with_reducible refine (impl_WalkCost.calls k2 t1101 _ _ t1102 _ _ t1109 t1142 _ ?side1 ?side2 ?side3 ?side4 A75.out).mono ?_
       (case side1 => exact nc_ (rR17 HO_1109001.out).2.2)
       (case side2 => exact (rR17 HO_1109001.out).2.1)
       (case side3 => exact nc_ (rR17 HO_5.out).2.2)
       (case side4 => exact (rR17 HO_5.out).2.1)
       rintro e w96 ⟨rfl, hb⟩
       have HS2_ := (hb.cell (World.block_lt_of_cell? _ _ (hHeld.2.2.1))).trans (hHeld.2.2.1)
       have HS3_ := (hb.cell (World.block_lt_of_cell? _ _ (hHeld.2.2.2.1))).trans (hHeld.2.2.2.1)
       have HS4_ := (hb.cell (World.block_lt_of_cell? _ _ (hHeld.2.2.2.2.1))).trans (hHeld.2.2.2.2.1)
       have HS5_ := (hb.cell (World.block_lt_of_cell? _ _ (hHeld.2.2.2.2.2))).trans (hHeld.2.2.2.2.2)
       refine ⟨_, rfl, ?_⟩
       replace HO_4 := kR_ HO_4 hb
       replace HO_5 := kR_ HO_5 hb
       replace HO_6 := kR_ HO_6 hb
       replace HO_1109001 := kR_ HO_1109001 hb
       replace HO1136 := kR_ HO1136 hb
       replace BK1108 := kb_ BK1108 hb
       replace HB := kB_ HB hb
       (try clear hb)
       (try clear hb2)
       (try clear hk)
       (try clear hi)
       refine hK.out _ _ ⟨ct_ BK1108.out 0, ct_ BK1108.out 1, HS2_, HS3_, HS4_, HS5_⟩ (fun hHeld => ?_)
       clear hK K
       refine nm1_ (some 115) ?_
       refine one_ (i := 33) (N := some 118) z17_57 rfl rfl (one_of HT_.out (by kernel_rfl)) (by decide) (fun K hK => ?_)
       refine go_ Try.func47 #[.agg #[.int .i64 t1101, .slice Ao9 t1102.length co9], .slice Ao10 t1105.length co10] ?_
       with_reducible refine (impl_WalkCost.calls k2 t1101 _ _ t1102 _ _ t1105 t1143 _ ?side1 ?side2 ?side3 ?side4 A76.out).mono ?_
       (case side1 => exact nc_ (rR17 HO_1109001.out).2.2)
       (case side2 => exact (rR17 HO_1109001.out).2.1)
       (case side3 => exact nc_ (rR17 HO_4.out).2.2)
       (case side4 => exact (rR17 HO_4.out).2.1)
       rintro e w97 ⟨rfl, hb⟩
       have HS2_ := (hb.cell (World.block_lt_of_cell? _ _ (hHeld.2.2.1))).trans (hHeld.2.2.1)
       have HS3_ := (hb.cell (World.block_lt_of_cell? _ _ (hHeld.2.2.2.1))).trans (hHeld.2.2.2.1)
       have HS4_ := (hb.cell (World.block_lt_of_cell? _ _ (hHeld.2.2.2.2.1))).trans (hHeld.2.2.2.2.1)
       have HS5_ := (hb.cell (World.block_lt_of_cell? _ _ (hHeld.2.2.2.2.2))).trans (hHeld.2.2.2.2.2)
       refine ⟨_, rfl, ?_⟩
       replace HO_4 := kR_ HO_4 hb
       replace HO_5 := kR_ HO_5 hb
       replace HO_6 := kR_ HO_6 hb
       replace HO_1109001 := kR_ HO_1109001 hb
       replace HO1136 := kR_ HO1136 hb
       replace BK1108 := kb_ BK1108 hb
       replace HB := kB_ HB hb
       (try clear hb)
       (try clear hb2)
       (try clear hk)
       (try clear hi)
       refine hK.out _ _ ⟨ct_ BK1108.out 0, ct_ BK1108.out 1, HS2_, HS3_, HS4_, HS5_⟩ (fun hHeld => ?_)
       clear hK K
       refine nm1_ (some 118) ?_
       refine pu_ 34 119 z17_58 HT_.out ?_
       refine pu_ 35 120 z17_59 HT_.out ?_
       refine pu_ 36 121 z17_60 HT_.out ?_
       refine un_ 37 122 z17_65 HT_.out ?_
       refine un_ 38 123 z17_66 HT_.out ?_
       refine un_ 39 124 z17_67 HT_.out ?_
       refine un_ 40 125 z17_61 HT_.out ?_
       refine un_ 41 126 z17_62 HT_.out ?_
       refine pu_ 42 127 z17_63 HT_.out ?_
       refine pu_ 43 2 z17_64 HT_.out ?_
       refine done_ (done_of HT_.out (by kernel_rfl)) ?_
       try go_wp2
       go_ret
       exact ⟨by first | rfl | (simp [errW_none, errW_some] <;> rfl) | (simp only [← hji68, ← hji71]; first | rfl | (simp [errW_none, errW_some] <;> rfl)) | (simp [*, errW_none, errW_some] <;> rfl), ne_ HB.out⟩
      rw [if_pos c77] at H
      have c77b0 : decide (t1142 ≤ t1143) = true := decide_eq_true c77
      clear c77
      replace H := Option.bind_eq_some_iff.mp H
      obtain ⟨t1144, A780, H⟩ := H
      replace H : ((laws_wkInts.f k2 t1144 t1109).bind fun t1147 => (some t1147)) = some r := H
      have A78 := Aside0.mk A780
      clear A780
      replace H := Option.bind_eq_some_iff.mp H
      obtain ⟨t1147, A790, H⟩ := H
      replace H : (some t1147) = some r := H
      have A79 := Aside0.mk A790
      clear A790
      obtain rfl := Option.some.inj H
      obtain ⟨Ao80, co80, eo80⟩ := Kd.R_slice HO_6.out
      subst eo80
      obtain ⟨hcz81_0, hcz81_1, hfz81_0, hfz81_1⟩ := cz2_ BK1108.out
      try go_wp2_with (first | ((with_reducible refine gate_callee (f := 50) rfl ?_); refine gl_ (some 84) Try.func50 #[.agg #[.int .i64 t1101, .slice Ao9 t1102.length co9], .slice Ao10 t1105.length co10] ?_; (with_reducible refine (impl_WalkNodes.calls k2 t1101 _ _ t1102 _ _ t1105 t1134 _ ?side1 ?side2 ?side3 ?side4 A62.out).mono ?_); (case side1 => exact nc_ (rR17 HO_1109001.out).2.2); (case side2 => exact (rR17 HO_1109001.out).2.1); (case side3 => exact nc_ (rR17 HO_4.out).2.2); (case side4 => exact (rR17 HO_4.out).2.1); rintro e w82 ⟨v1135, rfl, ho0, hb⟩; refine ⟨_, rfl, ?_⟩; have HO1136 := Aside0.mk (Kd.R_lower (Kd.R_new' (Kd.R_new' (Kd.R_new' ho0 (Kd.R_lt (nr_ HO_4.out))) (Kd.R_lt (nr_ HO_5.out))) (Kd.R_lt (nr_ HO_6.out))) (below_size (ne_ HB.out))); replace HO_4 := Aside0.mk (Kd.R_elder' (nr_ HO_4.out) (Kd.R_base ho0) hb); replace HO_5 := Aside0.mk (Kd.R_elder' (nr_ HO_5.out) (Kd.R_base ho0) hb); replace HO_6 := Aside0.mk (Kd.R_elder' (nr_ HO_6.out) (Kd.R_base ho0) hb); replace HO_1109001 := kR_ HO_1109001 hb; replace BK1108 := kb_ BK1108 hb; replace HB := kB_ HB hb; (try clear hb); (try clear hb2); (try clear hk); (try clear hi); (try clear ho0)))
      replace HO_4 := Aside0.mk (rD17 HO_4.out)
      replace HO_5 := Aside0.mk (rD17 HO_5.out)
      replace HO_6 := Aside0.mk (rD17 HO_6.out)
      replace HO_1109001 := Aside0.mk (rD17 HO_1109001.out)
      replace HO1136 := Aside0.mk (rD17 HO1136.out)
      replace BK1108 := Aside0.mk (blk_drew BK1108.out)
      replace HB := Aside0.mk (below_drew1 HB.out)
      have p1138 : 0 ≤ (0 : Int) := (by omega)
      have q1138 : 0 < (t1125.length : Int) := of_decide_eq_true nx_
      obtain ⟨ad1138, e1138, hx1138_0⟩ := Kd.at_int (rR17 HO_6.out).2.2 0 p1138 q1138
      cases e1138
      have qi1138 : (0 < t1125.length) = True := eq_true (by omega)
      (try rw [show ((0 : Int)).toNat = 0 from rfl] at hx1138_0)
      (try rw [Addr.add_zero'] at hx1138_0)
      replace p1138 := eq_true p1138
      replace q1138 := eq_true q1138
      have p1139 : 0 ≤ (0 : Int) := (by omega)
      have q1139 : 0 < (t1134.length : Int) := of_decide_eq_true nx_
      obtain ⟨Ao_HO1136, co_HO1136, eo_HO1136⟩ := Kd.R_slice HO1136.out
      subst eo_HO1136
      obtain ⟨ad1139, e1139, hx1139_0⟩ := Kd.at_int (rR17 HO1136.out).2.2 0 p1139 q1139
      cases e1139
      have qi1139 : (0 < t1134.length) = True := eq_true (by omega)
      (try rw [show ((0 : Int)).toNat = 0 from rfl] at hx1139_0)
      (try rw [Addr.add_zero'] at hx1139_0)
      replace p1139 := eq_true p1139
      replace q1139 := eq_true q1139
      have p1140 : 0 ≤ ((ji68) : Int) := of_decide_eq_true nx_
      have q1140 : (ji68) < (t1125.length : Int) := of_decide_eq_true nx_
      obtain ⟨ad1140, e1140, hx1140_0⟩ := Kd.at_int (rR17 HO_6.out).2.2 (ji68) p1140 q1140
      obtain rfl : ad1138 = ad1140 := (by injection e1140)
      replace p1140 := eq_true p1140
      replace q1140 := eq_true q1140
      have p1141 : 0 ≤ ((ji71) : Int) := of_decide_eq_true nx_
      have q1141 : (ji71) < (t1134.length : Int) := of_decide_eq_true nx_
      obtain ⟨ad1141, e1141, hx1141_0⟩ := Kd.at_int (rR17 HO1136.out).2.2 (ji71) p1141 q1141
      obtain rfl : ad1139 = ad1141 := (by injection e1141)
      replace p1141 := eq_true p1141
      replace q1141 := eq_true q1141
      refine start_ (n := 44) (S := fun w' => w'.cell? ⟨gb1108, 0, none⟩ = some (.int .i64 t1101) ∧ w'.cell? ⟨gb1108, 1, none⟩ = some (.slice Ao9 t1102.length co9) ∧ w'.cell? ad1138 = some (.int .i64 (rd t1125 0)) ∧ w'.cell? ad1139 = some (.int .i64 (rd t1134 0)) ∧ w'.cell? (ad1138.add ((ji68)).toNat) = some (.int .i64 (rd t1125 (ji68))) ∧ w'.cell? (ad1139.add ((ji71)).toNat) = some (.int .i64 (rd t1134 (ji71)))) (ds := []) z17_23 (by kernel_rfl) rfl rfl ⟨ct_ BK1108.out 0, ct_ BK1108.out 1, hx1138_0, hx1139_0, hx1140_0, hx1141_0⟩ (fun hHeld => ?_); refine with_tabW laws_FnWalkPlain.tab16 laws_FnWalkPlain.bits16 (fun HT_ HW_ => ?_)
      generalize w82.drew = w83 at HO_4 HO_5 HO_6 HO_1109001 HO1136 BK1108 HB hx1138_0 hx1139_0 hx1140_0 hx1141_0 hHeld ⊢
      refine pu_ 1 86 z17_24 HT_.out ?_
      refine tk_ 0 85 z17_25 HT_.out HW_.out hHeld ?_
      refine one_ (i := 2) (N := some 87) z17_26 rfl rfl (one_of HT_.out (by kernel_rfl)) (by decide) (fun K hK => ?_)
      refine go_ Try.func43 #[.agg #[.int .i64 t1101, .slice Ao9 t1102.length co9], .slice Ao48 t1109.length co48] ?_
      with_reducible refine (impl_WalkOk.calls k2 t1101 _ _ t1102 _ _ t1109 true _ ?side1 ?side2 ?side3 ?side4 A63.out).mono ?_
      (case side1 => exact nc_ (rR17 HO_1109001.out).2.2)
      (case side2 => exact (rR17 HO_1109001.out).2.1)
      (case side3 => exact nc_ (rR17 HO_5.out).2.2)
      (case side4 => exact (rR17 HO_5.out).2.1)
      rintro e w84 ⟨rfl, hb⟩
      have HS2_ := (hb.cell (World.block_lt_of_cell? _ _ (hHeld.2.2.1))).trans (hHeld.2.2.1)
      have HS3_ := (hb.cell (World.block_lt_of_cell? _ _ (hHeld.2.2.2.1))).trans (hHeld.2.2.2.1)
      have HS4_ := (hb.cell (World.block_lt_of_cell? _ _ (hHeld.2.2.2.2.1))).trans (hHeld.2.2.2.2.1)
      have HS5_ := (hb.cell (World.block_lt_of_cell? _ _ (hHeld.2.2.2.2.2))).trans (hHeld.2.2.2.2.2)
      refine ⟨_, rfl, ?_⟩
      replace HO_4 := kR_ HO_4 hb
      replace HO_5 := kR_ HO_5 hb
      replace HO_6 := kR_ HO_6 hb
      replace HO_1109001 := kR_ HO_1109001 hb
      replace HO1136 := kR_ HO1136 hb
      replace BK1108 := kb_ BK1108 hb
      replace HB := kB_ HB hb
      (try clear hb)
      (try clear hb2)
      (try clear hk)
      (try clear hi)
      obtain ⟨Ao85, co85, eo85⟩ := Kd.R_slice HO1136.out
      (first | subst eo85 | (injection eo85 with f1_ f2_ f3_; have f4_ := f1_.symm; have f5_ := f3_.symm; clear f1_ f2_ f3_; subst f4_; subst f5_))
      refine hK.out _ _ ⟨ct_ BK1108.out 0, ct_ BK1108.out 1, HS2_, HS3_, HS4_, HS5_⟩ (fun hHeld => ?_)
      clear hK K
      refine nm1_ (some 87) ?_
      refine pu_ 3 88 z17_27 HT_.out ?_
      refine pu_ 4 89 z17_28 HT_.out ?_
      refine pu_ 5 90 z17_29 HT_.out ?_
      refine pu_ 7 92 z17_30 HT_.out ?_
      refine pu_ 8 93 z17_31 HT_.out ?_
      refine tk_ 6 91 z17_32 HT_.out HW_.out hHeld ?_
      refine tk_ 9 94 z17_33 HT_.out HW_.out hHeld ?_
      refine pu_ 10 95 z17_34 HT_.out ?_
      refine pu_ 11 96 z17_35 HT_.out ?_
      refine pu_ 12 97 z17_36 HT_.out ?_
      refine pu_ 13 98 z17_37 HT_.out ?_
      refine pu_ 14 99 z17_38 HT_.out ?_
      refine pu_ 15 100 z17_39 HT_.out ?_
      refine pu_ 16 101 z17_40 HT_.out ?_
      refine pu_ 17 102 z17_41 HT_.out ?_
      refine pu_ 19 104 z17_42 HT_.out ?_
      refine pu_ 20 105 z17_43 HT_.out ?_
      refine pu_ 21 106 z17_44 HT_.out ?_
      refine pu_ 22 107 z17_45 HT_.out ?_
      refine pu_ 23 108 z17_46 HT_.out ?_
      refine tk_ 18 103 z17_47 HT_.out HW_.out hHeld ?_
      refine tk_ 24 109 z17_48 HT_.out HW_.out hHeld ?_
      refine pu_ 25 110 z17_49 HT_.out ?_
      refine pu_ 26 111 z17_50 HT_.out ?_
      refine pu_ 27 112 z17_51 HT_.out ?_
      refine pu_ 29 114 z17_52 HT_.out ?_
      refine pu_ 32 117 z17_53 HT_.out ?_
      refine tk_ 28 113 z17_54 HT_.out HW_.out hHeld ?_
      refine tk_ 31 116 z17_55 HT_.out HW_.out hHeld ?_
      refine one_ (i := 30) (N := some 115) z17_56 rfl rfl (one_of HT_.out (by kernel_rfl)) (by decide) (fun K hK => ?_)
      refine go_ Try.func47 #[.agg #[.int .i64 t1101, .slice Ao9 t1102.length co9], .slice Ao48 t1109.length co48] ?_
      with_reducible refine (impl_WalkCost.calls k2 t1101 _ _ t1102 _ _ t1109 t1142 _ ?side1 ?side2 ?side3 ?side4 A75.out).mono ?_
      (case side1 => exact nc_ (rR17 HO_1109001.out).2.2)
      (case side2 => exact (rR17 HO_1109001.out).2.1)
      (case side3 => exact nc_ (rR17 HO_5.out).2.2)
      (case side4 => exact (rR17 HO_5.out).2.1)
      rintro e w86 ⟨rfl, hb⟩
      have HS2_ := (hb.cell (World.block_lt_of_cell? _ _ (hHeld.2.2.1))).trans (hHeld.2.2.1)
      have HS3_ := (hb.cell (World.block_lt_of_cell? _ _ (hHeld.2.2.2.1))).trans (hHeld.2.2.2.1)
      have HS4_ := (hb.cell (World.block_lt_of_cell? _ _ (hHeld.2.2.2.2.1))).trans (hHeld.2.2.2.2.1)
      have HS5_ := (hb.cell (World.block_lt_of_cell? _ _ (hHeld.2.2.2.2.2))).trans (hHeld.2.2.2.2.2)
      refine ⟨_, rfl, ?_⟩
      replace HO_4 := kR_ HO_4 hb
      replace HO_5 := kR_ HO_5 hb
      replace HO_6 := kR_ HO_6 hb
      replace HO_1109001 := kR_ HO_1109001 hb
      replace HO1136 := kR_ HO1136 hb
      replace BK1108 := kb_ BK1108 hb
      replace HB := kB_ HB hb
      (try clear hb)
      (try clear hb2)
      (try clear hk)
      (try clear hi)
      refine hK.out _ _ ⟨ct_ BK1108.out 0, ct_ BK1108.out 1, HS2_, HS3_, HS4_, HS5_⟩ (fun hHeld => ?_)
      clear hK K
      refine nm1_ (some 115) ?_
      refine one_ (i := 33) (N := some 118) z17_57 rfl rfl (one_of HT_.out (by kernel_rfl)) (by decide) (fun K hK => ?_)
      refine go_ Try.func47 #[.agg #[.int .i64 t1101, .slice Ao9 t1102.length co9], .slice Ao10 t1105.length co10] ?_
      with_reducible refine (impl_WalkCost.calls k2 t1101 _ _ t1102 _ _ t1105 t1143 _ ?side1 ?side2 ?side3 ?side4 A76.out).mono ?_
      (case side1 => exact nc_ (rR17 HO_1109001.out).2.2)
      (case side2 => exact (rR17 HO_1109001.out).2.1)
      (case side3 => exact nc_ (rR17 HO_4.out).2.2)
      (case side4 => exact (rR17 HO_4.out).2.1)
      rintro e w87 ⟨rfl, hb⟩
      have HS2_ := (hb.cell (World.block_lt_of_cell? _ _ (hHeld.2.2.1))).trans (hHeld.2.2.1)
      have HS3_ := (hb.cell (World.block_lt_of_cell? _ _ (hHeld.2.2.2.1))).trans (hHeld.2.2.2.1)
      have HS4_ := (hb.cell (World.block_lt_of_cell? _ _ (hHeld.2.2.2.2.1))).trans (hHeld.2.2.2.2.1)
      have HS5_ := (hb.cell (World.block_lt_of_cell? _ _ (hHeld.2.2.2.2.2))).trans (hHeld.2.2.2.2.2)
      refine ⟨_, rfl, ?_⟩
      replace HO_4 := kR_ HO_4 hb
      replace HO_5 := kR_ HO_5 hb
      replace HO_6 := kR_ HO_6 hb
      replace HO_1109001 := kR_ HO_1109001 hb
      replace HO1136 := kR_ HO1136 hb
      replace BK1108 := kb_ BK1108 hb
      replace HB := kB_ HB hb
      (try clear hb)
      (try clear hb2)
      (try clear hk)
      (try clear hi)
      refine hK.out _ _ ⟨ct_ BK1108.out 0, ct_ BK1108.out 1, HS2_, HS3_, HS4_, HS5_⟩ (fun hHeld => ?_)
      clear hK K
      refine nm1_ (some 118) ?_
      refine pu_ 34 119 z17_58 HT_.out ?_
      refine pu_ 35 120 z17_59 HT_.out ?_
      refine pu_ 36 121 z17_60 HT_.out ?_
      refine pu_ 38 123 (bm_ 44 412316860415) HT_.out ?_
      refine pu_ 40 125 (bm_ 44 1511828488191) HT_.out ?_
      refine tk_ 37 122 (bm_ 44 1649267441663) HT_.out HW_.out hHeld ?_
      refine one_ (i := 39) (N := some 124) z17_61 rfl rfl (one_of HT_.out (by kernel_rfl)) (by decide) (fun K hK => ?_)
      refine go_ Try.func56 #[.agg #[.int .i64 t1101, .slice Ao9 t1102.length co9], .slice Ao48 t1109.length co48] ?_
      with_reducible refine (impl_WalkPlain.calls k2 t1101 _ _ t1102 _ _ t1109 t1144 _ ?side1 ?side2 ?side3 ?side4 A78.out).mono ?_
      (case side1 => exact nc_ (rR17 HO_1109001.out).2.2)
      (case side2 => exact (rR17 HO_1109001.out).2.1)
      (case side3 => exact nc_ (rR17 HO_5.out).2.2)
      (case side4 => exact (rR17 HO_5.out).2.1)
      rintro e w88 ⟨v1145, rfl, ho0, hb⟩
      have HS2_ := (hb.cell (World.block_lt_of_cell? _ _ (hHeld.2.2.1))).trans (hHeld.2.2.1)
      have HS3_ := (hb.cell (World.block_lt_of_cell? _ _ (hHeld.2.2.2.1))).trans (hHeld.2.2.2.1)
      have HS4_ := (hb.cell (World.block_lt_of_cell? _ _ (hHeld.2.2.2.2.1))).trans (hHeld.2.2.2.2.1)
      have HS5_ := (hb.cell (World.block_lt_of_cell? _ _ (hHeld.2.2.2.2.2))).trans (hHeld.2.2.2.2.2)
      refine ⟨_, rfl, ?_⟩
      replace HO_1109001 := kR_ HO_1109001 hb
      have HO1146 := Aside0.mk (Kd.R_lower (Kd.R_new' (Kd.R_new' (Kd.R_new' (Kd.R_new' ho0 (Kd.R_lt (nr_ HO_4.out))) (Kd.R_lt (nr_ HO_5.out))) (Kd.R_lt (nr_ HO_6.out))) (Kd.R_lt (nr_ HO1136.out))) (below_size (ne_ HB.out)))
      replace HO_4 := Aside0.mk (Kd.R_elder' (nr_ HO_4.out) (Kd.R_base ho0) hb)
      replace HO_5 := Aside0.mk (Kd.R_elder' (nr_ HO_5.out) (Kd.R_base ho0) hb)
      replace HO_6 := Aside0.mk (Kd.R_elder' (nr_ HO_6.out) (Kd.R_base ho0) hb)
      replace HO1136 := Aside0.mk (Kd.R_elder' (nr_ HO1136.out) (Kd.R_base ho0) hb)
      replace BK1108 := kb_ BK1108 hb
      replace HB := kB_ HB hb
      (try clear hb)
      (try clear hb2)
      (try clear hk)
      (try clear hi)
      (try clear ho0)
      obtain ⟨Ao89, co89, eo89⟩ := Kd.R_slice HO1146.out
      (first | subst eo89 | (injection eo89 with f1_ f2_ f3_; have f4_ := f1_.symm; have f5_ := f3_.symm; clear f1_ f2_ f3_; subst f4_; subst f5_))
      refine hK.out _ _ ⟨ct_ BK1108.out 0, ct_ BK1108.out 1, HS2_, HS3_, HS4_, HS5_⟩ (fun hHeld => ?_)
      clear hK K
      refine nm1_ (some 124) ?_
      refine one_ (i := 41) (N := some 126) z17_62 rfl rfl (one_of HT_.out (by kernel_rfl)) (by decide) (fun K hK => ?_)
      refine go_ Try.func30 #[.slice Ao89 t1144.length co89, .slice Ao48 t1109.length co48] ?_
      with_reducible refine (laws_wkInts.calls k2 _ _ t1144 _ _ t1109 t1147 _ ?side1 ?side2 ?side3 ?side4 A79.out).mono ?_
      (case side1 => exact nc_ (rR17 HO1146.out).2.2)
      (case side2 => exact (rR17 HO1146.out).2.1)
      (case side3 => exact nc_ (rR17 HO_5.out).2.2)
      (case side4 => exact (rR17 HO_5.out).2.1)
      rintro e w' ⟨rfl, ⟨nd, rfl⟩⟩
      refine ⟨_, rfl, ?_⟩
      refine hK.out _ _ ⟨ct_ BK1108.out 0, ct_ BK1108.out 1, hHeld.2.2.1, hHeld.2.2.2.1, hHeld.2.2.2.2.1, hHeld.2.2.2.2.2⟩ (fun hHeld => ?_)
      clear hK K
      refine nm1_ (some 126) ?_
      refine pu_ 42 127 z17_63 HT_.out ?_
      refine pu_ 43 2 z17_64 HT_.out ?_
      refine done_ (done_of HT_.out (by kernel_rfl)) ?_
      try go_wp2
      go_ret
      exact ⟨by first | rfl | (simp [errW_none, errW_some] <;> rfl) | (simp only [← hji68, ← hji71]; first | rfl | (simp [errW_none, errW_some] <;> rfl)) | (simp [*, errW_none, errW_some] <;> rfl), ne_ HB.out⟩
/-- THE ONE PURE STATEMENT of laws_FnWalkPlain: yours. -/
def laws_FnWalkPlain.Pure : Prop := ∀ (l0 : List Int), l0.length ≤ maxLen → l0.length * 1 ≤ 140737488351232 → (∀ x ∈ l0, (Lit.int .u8 x).wf = true) → ∃ k, laws_FnWalkPlain.f k l0 = some true
theorem laws_FnWalkPlain.walk (P : laws_FnWalkPlain.Pure) (a0 : Option Addr) (len0 cap0 : Nat) (z0 : List Int) (w : World) (w0 : (a0 = none ∧ len0 = 0 ∧ cap0 = 0 ∧ z0 = []) ∨ ∃ x, a0 = some x ∧ len0 ≤ cap0 ∧ cap0 ≤ maxLen ∧ z0.length = cap0 ∧ (∀ i, i < z0.length → w.cell? (x.add i) = some (.int .u8 (z0.getD i 0))) ∧ ∀ n ∈ z0, (Lit.int .u8 n).wf = true) (y0 : len0 * 1 ≤ 140737488351232) :
    Calls Try.prog 17 #[.slice a0 len0 cap0] w fun e w' => e = .returned (.bool true) ∧ Below w.heap.size w w' := by
  obtain ⟨l0, rfl, hr0, hm0, hw0, hc0⟩ := ReadsInt.ofRowC w0
  obtain ⟨k, h⟩ := P l0 hm0 y0 hw0
  refine (laws_FnWalkPlain.calls k _ _ l0 true w (Kd.C_of_reads (d := (0 : Int)) (h1 := fun _ => rfl) hr0) hc0 h).mono ?_
  rintro e w' ⟨rfl, hd⟩
  exact ⟨rfl, hd⟩

end Go.Proofs.Ytpjmkghmjpbldaa.Print
