-- Made by this session's own program (wip/patch_print.py, over the kit's print). Lean checks it.
import Derived.Test.YtfpfaaibgaejjaaPrint0
import Derived.Test.YtfpfaaibgaejjaaPrintB
namespace Go.Proofs.Ytfpfaaibgaejjaa.Print
open Go.RowKit Go.Proofs.YtfpfaaibgaejjaaW.PrintWords Go.Proofs.YtfpfaaibgaejjaaW.PrintLast Go.Proofs.YtfpfaaibgaejjaaW.PrintMore Go.Proofs.YtfpfaaibgaejjaaX
attribute [local go_sem] max2_int min2_int max_two min_two max_three min_three max_four min_four   -- for this text's walks alone
set_option linter.unusedVariables false
set_option linter.unusedSimpArgs false

abbrev z35_0 := bm_ 53 0
abbrev z35_1 := bm_ 53 1
abbrev z35_2 := bm_ 53 3
abbrev z35_3 := bm_ 53 7
abbrev z35_4 := bm_ 53 15
abbrev z35_5 := bm_ 53 31
abbrev z35_6 := bm_ 53 63
abbrev z35_7 := bm_ 53 127
abbrev z35_8 := bm_ 53 255
abbrev z35_9 := bm_ 53 511
abbrev z35_10 := bm_ 53 1023
abbrev z35_11 := bm_ 53 2047
abbrev z35_12 := bm_ 53 4095
abbrev z35_13 := bm_ 53 12287
abbrev z35_14 := bm_ 53 28671
abbrev z35_15 := bm_ 53 61439
abbrev z35_16 := bm_ 53 126975
abbrev z35_17 := bm_ 53 131071
abbrev z35_18 := bm_ 53 262143
abbrev z35_19 := bm_ 53 524287
abbrev z35_20 := bm_ 53 1048575
abbrev z35_21 := bm_ 53 2097151
abbrev z35_22 := bm_ 53 4194303
abbrev z35_23 := bm_ 53 8388607
abbrev z35_24 := bm_ 53 16777215
abbrev z35_25 := bm_ 53 33554431
abbrev z35_26 := bm_ 53 67108863
abbrev z35_27 := bm_ 53 134217727
abbrev z35_28 := bm_ 53 268435455
abbrev z35_29 := bm_ 53 536870911
abbrev z35_30 := bm_ 53 1610612735
abbrev z35_31 := bm_ 53 3758096383
abbrev z35_32 := bm_ 53 8053063679
abbrev z35_33 := bm_ 53 16642998271
abbrev z35_34 := bm_ 53 33822867455
abbrev z35_35 := bm_ 53 34359738367
abbrev z35_36 := bm_ 53 68719476735
abbrev z35_37 := bm_ 53 137438953471
abbrev z35_38 := bm_ 53 274877906943
abbrev z35_39 := bm_ 53 549755813887
abbrev z35_40 := bm_ 53 1099511627775
abbrev z35_41 := bm_ 53 2199023255551
abbrev z35_42 := bm_ 53 4398046511103
abbrev z35_43 := bm_ 53 8796093022207
abbrev z35_44 := bm_ 53 17592186044415
abbrev z35_45 := bm_ 53 35184372088831
abbrev z35_46 := bm_ 53 70368744177663
abbrev z35_47 := bm_ 53 140737488355327
abbrev z35_48 := bm_ 53 281474976710655
abbrev z35_49 := bm_ 53 562949953421311
abbrev z35_50 := bm_ 53 1125899906842623
abbrev z35_51 := bm_ 53 2251799813685247
abbrev z35_52 := bm_ 53 4503599627370495
abbrev z35_53 := bm_ 53 9007199254740991
abbrev z35_54 := bm_ 53 13194139533311
abbrev z35_55 := bm_ 53 30786325577727
abbrev z35_56 := bm_ 53 65970697666559
abbrev z35_57 := bm_ 53 136339441844223
abbrev z35_58 := bm_ 53 277076930199551
abbrev z35_59 := bm_ 53 1073741823
abbrev z35_60 := bm_ 53 2147483647
abbrev z35_61 := bm_ 53 4294967295
abbrev z35_62 := bm_ 53 8589934591
abbrev z35_63 := bm_ 53 17179869183
/-! ### spec_l5Ok: function 35 -/
def spec_l5Ok.l0 : Nat → List (S36) → Int → Option (Bool)
  | 0, _, _ => none
  | k + 1, x0, x3 => if x3 < (x0.length : Int) then (if 0 ≤ x3 then ((spec_l1In.f ((rd_T36 x0 x3).f0) 0 199).bind fun t165 => (if t165 = true then ((spec_l1In.f ((rd_T36 x0 x3).f1) ((rd_T36 x0 x3).f0) 199).bind fun t168 => (if t168 = true then (if x3 > 0 then (if 0 ≤ (wrap64 (x3 - 1)) then (if (wrap64 (x3 - 1)) < (x0.length : Int) then (if ((rd_T36 x0 x3).f0) ≤ ((rd_T36 x0 (wrap64 (x3 - 1))).f0) then (some false) else (if ((rd_T36 x0 x3).f1) ≤ ((rd_T36 x0 (wrap64 (x3 - 1))).f1) then (some false) else (spec_l5Ok.l0 k x0 (wrap64 (x3 + 1))))) else (none)) else (none)) else (spec_l5Ok.l0 k x0 (wrap64 (x3 + 1)))) else (some false))) else (some false))) else (none)) else (some (decide ((x0.length : Int) ≤ 12)))
def spec_l5Ok.f (k : Nat) (l0 : List (S36)) : Option (Bool) := spec_l5Ok.l0 k l0 0
theorem spec_l5Ok.mono_l : ∀ k, (∀ y0 y1, LeO (spec_l5Ok.l0 k y0 y1) (spec_l5Ok.l0 (k + 1) y0 y1))
  | 0 => fun _ _ r h => by simp [spec_l5Ok.l0] at h
  | k + 1 => by
    have ih0 := spec_l5Ok.mono_l k
    · intro y0 y1
      unfold spec_l5Ok.l0
      repeat' first | (with_reducible first | exact ih0 _ _ | exact LeO.refl _ | exact LeO.none _ | refine LeO.ite ?_ ?_ | refine LeO.bind ?_ (fun _ => ?_)) | exact ih0 _ _ | exact LeO.none _ | refine LeO.ite ?_ ?_ | refine LeO.bind ?_ (fun _ => ?_)
theorem spec_l5Ok.mono : ∀ a0 k, LeO (spec_l5Ok.f k a0) (spec_l5Ok.f (k + 1) a0) := by
  intro a0 k
  have ih0 := spec_l5Ok.mono_l k
  unfold spec_l5Ok.f
  repeat' first | (with_reducible first | exact ih0 _ _ | exact LeO.refl _ | exact LeO.none _ | refine LeO.ite ?_ ?_ | refine LeO.bind ?_ (fun _ => ?_)) | exact ih0 _ _ | exact LeO.none _ | refine LeO.ite ?_ ?_ | refine LeO.bind ?_ (fun _ => ?_)
def spec_l5Ok.T4 : Bool × List (List Nat × List Nat) := (true, [([], []), ([], []), ([0, 1], [0, 1]), ([2], [2]), ([3], [3]), ([4], [4]), ([5], [5]), ([6, 5], [6]), ([7], [7]), ([7], [7]), ([8, 9, 7], [7, 8, 9]), ([10, 7], [7, 10]), ([11, 7], [7, 11]), ([7], [7]), ([7], [7]), ([13, 14, 7], [7, 13, 14]), ([15, 7], [7, 15]), ([16, 7], [7, 16]), ([12, 17, 7, 7], [7, 12, 17]), ([18, 7], [7, 18]), ([7, 19], [7, 19]), ([20, 18], [20]), ([21], [21]), ([22, 21], [21, 22]), ([23, 21, 21], [21, 23]), ([24], [24]), ([24], [24]), ([25, 26, 24], [24, 25, 26]), ([27, 24], [24, 27]), ([28, 24], [24, 28]), ([24], [24]), ([24], [24]), ([31, 24], [24, 31]), ([30, 32, 24], [24, 30, 32]), ([33, 24], [24, 33]), ([34, 24], [24, 34]), ([29, 35, 24], [24, 29, 35]), ([36, 24, 24], [24, 36]), ([37], [37]), ([37], [37]), ([38, 39, 37], [37, 38, 39]), ([40, 37], [37, 40]), ([41, 37], [37, 41]), ([37], [37]), ([37], [37]), ([44, 37], [37, 44]), ([43, 45, 37], [37, 43, 45]), ([46, 37], [37, 46]), ([47, 37], [37, 47]), ([42, 48, 37], [37, 42, 48]), ([37, 49, 24], [24, 37, 49]), ([24, 50, 21], [21, 24, 50]), ([21, 51], [21, 51])])
def spec_l5Ok.B4 : List Nat := [0, 0, 3, 7, 15, 31, 63, 127, 255, 255, 1023, 2047, 4095, 255, 255, 24831, 57599, 123135, 262143, 524287, 1048575, 2097151, 4194303, 8388607, 16777215, 33554431, 33554431, 134217727, 268435455, 536870911, 33554431, 33554431, 2181038079, 7549747199, 16139681791, 33319550975, 68719476735, 137438953471, 274877906943, 274877906943, 1099511627775, 2199023255551, 4398046511103, 274877906943, 274877906943, 17867063951359, 61847529062399, 132216273240063, 272953761595391, 562949953421311, 1125899906842623, 2251799813685247, 4503599627370495]
theorem spec_l5Ok.tab4 : rtab .any (opsOf Try.f35 4) = spec_l5Ok.T4 := by kernel_rfl
theorem spec_l5Ok.bits4 : waitsOk spec_l5Ok.T4.2 spec_l5Ok.B4 = true := by kernel_rfl
set_option maxHeartbeats 200000000 in
set_option maxRecDepth 100000 in
theorem spec_l5Ok.calls (k : Nat) (A0 : Option Addr) (c0 : Nat) (l0 : List (S36)) (r : Bool) (w : World) (hr0 : Kd.C k36 w A0 l0.length l0) (hc0 : l0.length ≤ c0) (h : spec_l5Ok.f k l0 = some r) :
    Calls Try.prog 35 #[.slice A0 l0.length c0] w fun e w' => e = .returned (.bool r) ∧ Below w.heap.size w w' := by
  have HR0 := Aside0.mk hr0
  have HC0 := Aside0.mk hc0
  clear hr0 hc0
  have HB := Aside0.mk (Below.refl w.heap.size w)
  have H : (spec_l5Ok.l0 k l0 0) = some r := h
  clear h
  have H' := Aside0.mk H
  clear H
  go_enter Try.func35, Try.ntmps35
  go_wp2
  go_loopg [3] k (fun kq v3 w' => ∃ (x3_1 : Int), v3 = .int .i64 x3_1 ∧ Aside0 (spec_l5Ok.l0 kq l0 x3_1 = some r) ∧ Aside0 (kq ≤ k) ∧ Aside0 (Below w.heap.size w w'))
  case atStart => exact ⟨(0), ns_, H', ⟨Nat.le_refl _⟩, ⟨ne_ HB.out⟩⟩
  case round =>
   clear H'
   obtain ⟨x3_1, rfl, HA, HK1, HB⟩ := hrel
   cases gk with
   | zero => exact absurd HA.out (by simp [spec_l5Ok.l0])
   | succ k1 =>
    have H := HA.out
    clear HA
    simp only [spec_l5Ok.l0] at H
    by_cases c2 : x3_1 < (l0.length : Int)
    rotate_left
    ·rw [if_neg c2] at H
     have c2b0 : decide (x3_1 < (l0.length : Int)) = false := decide_eq_false c2
     clear c2
     obtain rfl := Option.some.inj H
     go_wp2
     go_ret
     exact ⟨nw_, ne_ HB.out⟩

    rw [if_pos c2] at H
    have c2b0 : decide (x3_1 < (l0.length : Int)) = true := decide_eq_true c2
    clear c2
    by_cases c3 : 0 ≤ x3_1
    rotate_left
    ·rw [if_neg c3] at H
     exact absurd H (by simp)
    rw [if_pos c3] at H
    have c3b0 : decide (0 ≤ x3_1) = true := decide_eq_true c3
    clear c3
    replace H := Option.bind_eq_some_iff.mp H
    obtain ⟨t165, A40, H⟩ := H
    try dsimp only at H
    have A4 := Aside0.mk A40
    clear A40
    by_cases c5 : t165 = true
    rotate_left
    ·replace c5 := Bool.eq_false_iff.mpr c5
     subst c5
     have H1 : (some false) = some r := by rw [if_neg (show ¬ (false = true) by decide)] at H; exact H
     clear H
     have H := H1
     clear H1
     obtain rfl := Option.some.inj H
     try go_wp2
     replace HB := Aside0.mk (below_drew1 HB.out)
     have p164 : 0 ≤ (x3_1 : Int) := of_decide_eq_true nx_
     have q164 : x3_1 < (l0.length : Int) := of_decide_eq_true nx_
     obtain ⟨ad164, e164, hx164_0, hx164_1⟩ := at_T36 HR0.out x3_1 p164 q164
     have hw164_1 := hx164_1
     have hw164_0 := hx164_0
     cases e164
     replace hx164_0 := hb_ HB.out hx164_0
     replace hx164_1 := hb_ HB.out hx164_1
     replace p164 := eq_true p164
     replace q164 := eq_true q164
     refine start_ (n := 53) (S := fun w' => w'.cell? (ad164.add ((x3_1).toNat * 2)) = some (.int .i64 ((rd_T36 l0 x3_1).f0)) ∧ w'.cell? ⟨(ad164.add ((x3_1).toNat * 2)).block, (ad164.add ((x3_1).toNat * 2)).off + 1, none⟩ = some (.int .i64 ((rd_T36 l0 x3_1).f1))) (ds := []) z35_0 (by kernel_rfl) rfl rfl ⟨((HB.out.cell (World.block_lt_of_cell? w _ hw164_0)).trans hw164_0), ((HB.out.cell (World.block_lt_of_cell? w _ hw164_1)).trans hw164_1)⟩ (fun hHeld => ?_); refine with_tabW spec_l5Ok.tab4 spec_l5Ok.bits4 (fun HT_ HW_ => ?_)
     generalize wr.drew = w19 at HB hx164_0 hx164_1 hHeld ⊢
     refine pu_ 0 10 z35_1 HT_.out ?_
     refine pu_ 1 11 z35_2 HT_.out ?_
     refine pu_ 2 12 z35_3 HT_.out ?_
     refine pu_ 3 13 z35_4 HT_.out ?_
     refine tk_ 4 14 z35_5 HT_.out HW_.out hHeld ?_
     refine one_ (i := 5) (N := some 15) z35_6 rfl rfl (one_of HT_.out (by kernel_rfl)) (by decide) (fun K hK => ?_)
     refine go_ Try.func30 #[.int .i64 ((rd_T36 l0 x3_1).f0), .int .i64 0, .int .i64 199] ?_
     with_reducible refine (spec_l1In.calls ((rd_T36 l0 x3_1).f0) 0 199 false _ A4.out).mono ?_
     rintro e w' ⟨rfl, ⟨nd, rfl⟩⟩
     refine ⟨_, rfl, ?_⟩
     refine hK.out _ _ ⟨((HB.out.cell (World.block_lt_of_cell? w _ hw164_0)).trans hw164_0), ((HB.out.cell (World.block_lt_of_cell? w _ hw164_1)).trans hw164_1)⟩ (fun hHeld => ?_)
     clear hK K
     refine nm1_ (some 15) ?_
     refine pu_ 6 16 z35_7 HT_.out ?_
     refine pu_ 7 17 z35_8 HT_.out ?_
     refine un_ 8 18 z35_9 HT_.out ?_
     refine un_ 9 19 z35_10 HT_.out ?_
     refine un_ 10 20 z35_11 HT_.out ?_
     refine un_ 11 21 z35_12 HT_.out ?_
     refine un_ 12 22 (bm_ 53 8191) HT_.out ?_
     refine un_ 13 23 (bm_ 53 16383) HT_.out ?_
     refine un_ 14 24 (bm_ 53 32767) HT_.out ?_
     refine un_ 15 25 (bm_ 53 65535) HT_.out ?_
     refine un_ 16 26 z35_17 HT_.out ?_
     refine un_ 17 27 z35_18 HT_.out ?_
     refine un_ 18 28 z35_19 HT_.out ?_
     refine un_ 19 29 z35_20 HT_.out ?_
     refine pu_ 20 30 z35_21 HT_.out ?_
     refine pu_ 21 31 z35_22 HT_.out ?_
     refine un_ 22 32 z35_23 HT_.out ?_
     refine un_ 23 33 z35_24 HT_.out ?_
     refine un_ 24 34 z35_25 HT_.out ?_
     refine un_ 25 35 z35_26 HT_.out ?_
     refine un_ 26 36 z35_27 HT_.out ?_
     refine un_ 27 37 z35_28 HT_.out ?_
     refine un_ 28 38 z35_29 HT_.out ?_
     refine un_ 29 39 z35_59 HT_.out ?_
     refine un_ 30 40 z35_60 HT_.out ?_
     refine un_ 31 41 z35_61 HT_.out ?_
     refine un_ 32 42 z35_62 HT_.out ?_
     refine un_ 33 43 z35_63 HT_.out ?_
     refine un_ 34 44 z35_35 HT_.out ?_
     refine un_ 35 45 z35_36 HT_.out ?_
     refine un_ 36 46 z35_37 HT_.out ?_
     refine un_ 37 47 z35_38 HT_.out ?_
     refine un_ 38 48 z35_39 HT_.out ?_
     refine un_ 39 49 z35_40 HT_.out ?_
     refine un_ 40 50 z35_41 HT_.out ?_
     refine un_ 41 51 z35_42 HT_.out ?_
     refine un_ 42 52 z35_43 HT_.out ?_
     refine un_ 43 53 z35_44 HT_.out ?_
     refine un_ 44 54 z35_45 HT_.out ?_
     refine un_ 45 55 z35_46 HT_.out ?_
     refine un_ 46 56 z35_47 HT_.out ?_
     refine un_ 47 57 z35_48 HT_.out ?_
     refine un_ 48 58 z35_49 HT_.out ?_
     refine un_ 49 59 z35_50 HT_.out ?_
     refine un_ 50 60 z35_51 HT_.out ?_
     refine un_ 51 61 z35_52 HT_.out ?_
     refine pu_ 52 62 z35_53 HT_.out ?_
     refine done_ (done_of HT_.out (by kernel_rfl)) ?_
     try go_wp2
     go_ret
     exact ⟨nw_, ne_ HB.out⟩
    subst c5
    rw [if_pos rfl] at H
    replace H := Option.bind_eq_some_iff.mp H
    obtain ⟨t168, A60, H⟩ := H
    try dsimp only at H
    have A6 := Aside0.mk A60
    clear A60
    by_cases c7 : t168 = true
    rotate_left
    ·replace c7 := Bool.eq_false_iff.mpr c7
     subst c7
     have H1 : (some false) = some r := by rw [if_neg (show ¬ (false = true) by decide)] at H; exact H
     clear H
     have H := H1
     clear H1
     obtain rfl := Option.some.inj H
     try go_wp2
     replace HB := Aside0.mk (below_drew1 HB.out)
     have p164 : 0 ≤ (x3_1 : Int) := of_decide_eq_true nx_
     have q164 : x3_1 < (l0.length : Int) := of_decide_eq_true nx_
     obtain ⟨ad164, e164, hx164_0, hx164_1⟩ := at_T36 HR0.out x3_1 p164 q164
     have hw164_1 := hx164_1
     have hw164_0 := hx164_0
     cases e164
     replace hx164_0 := hb_ HB.out hx164_0
     replace hx164_1 := hb_ HB.out hx164_1
     replace p164 := eq_true p164
     replace q164 := eq_true q164
     have p166 : 0 ≤ (x3_1 : Int) := of_decide_eq_true nx_
     have q166 : x3_1 < (l0.length : Int) := of_decide_eq_true nx_
     obtain ⟨ad166, e166, hx166_0, hx166_1⟩ := at_T36 HR0.out x3_1 p166 q166
     have hw166_1 := hx166_1
     have hw166_0 := hx166_0
     obtain rfl : ad164 = ad166 := (by injection e166)
     replace hx166_0 := hb_ HB.out hx166_0
     replace hx166_1 := hb_ HB.out hx166_1
     replace p166 := eq_true p166
     replace q166 := eq_true q166
     have p167 : 0 ≤ (x3_1 : Int) := of_decide_eq_true nx_
     have q167 : x3_1 < (l0.length : Int) := of_decide_eq_true nx_
     obtain ⟨ad167, e167, hx167_0, hx167_1⟩ := at_T36 HR0.out x3_1 p167 q167
     have hw167_1 := hx167_1
     have hw167_0 := hx167_0
     obtain rfl : ad164 = ad167 := (by injection e167)
     replace hx167_0 := hb_ HB.out hx167_0
     replace hx167_1 := hb_ HB.out hx167_1
     replace p167 := eq_true p167
     replace q167 := eq_true q167
     refine start_ (n := 53) (S := fun w' => w'.cell? (ad164.add ((x3_1).toNat * 2)) = some (.int .i64 ((rd_T36 l0 x3_1).f0)) ∧ w'.cell? ⟨(ad164.add ((x3_1).toNat * 2)).block, (ad164.add ((x3_1).toNat * 2)).off + 1, none⟩ = some (.int .i64 ((rd_T36 l0 x3_1).f1)) ∧ w'.cell? (ad164.add ((x3_1).toNat * 2)) = some (.int .i64 ((rd_T36 l0 x3_1).f0)) ∧ w'.cell? ⟨(ad164.add ((x3_1).toNat * 2)).block, (ad164.add ((x3_1).toNat * 2)).off + 1, none⟩ = some (.int .i64 ((rd_T36 l0 x3_1).f1)) ∧ w'.cell? (ad164.add ((x3_1).toNat * 2)) = some (.int .i64 ((rd_T36 l0 x3_1).f0)) ∧ w'.cell? ⟨(ad164.add ((x3_1).toNat * 2)).block, (ad164.add ((x3_1).toNat * 2)).off + 1, none⟩ = some (.int .i64 ((rd_T36 l0 x3_1).f1))) (ds := []) z35_0 (by kernel_rfl) rfl rfl ⟨((HB.out.cell (World.block_lt_of_cell? w _ hw164_0)).trans hw164_0), ((HB.out.cell (World.block_lt_of_cell? w _ hw164_1)).trans hw164_1), ((HB.out.cell (World.block_lt_of_cell? w _ hw166_0)).trans hw166_0), ((HB.out.cell (World.block_lt_of_cell? w _ hw166_1)).trans hw166_1), ((HB.out.cell (World.block_lt_of_cell? w _ hw167_0)).trans hw167_0), ((HB.out.cell (World.block_lt_of_cell? w _ hw167_1)).trans hw167_1)⟩ (fun hHeld => ?_); refine with_tabW spec_l5Ok.tab4 spec_l5Ok.bits4 (fun HT_ HW_ => ?_)
     generalize wr.drew = w18 at HB hx164_0 hx164_1 hx166_0 hx166_1 hx167_0 hx167_1 hHeld ⊢
     refine pu_ 0 10 z35_1 HT_.out ?_
     refine pu_ 1 11 z35_2 HT_.out ?_
     refine pu_ 2 12 z35_3 HT_.out ?_
     refine pu_ 3 13 z35_4 HT_.out ?_
     refine tk_ 4 14 z35_5 HT_.out HW_.out hHeld ?_
     refine one_ (i := 5) (N := some 15) z35_6 rfl rfl (one_of HT_.out (by kernel_rfl)) (by decide) (fun K hK => ?_)
     refine go_ Try.func30 #[.int .i64 ((rd_T36 l0 x3_1).f0), .int .i64 0, .int .i64 199] ?_
     with_reducible refine (spec_l1In.calls ((rd_T36 l0 x3_1).f0) 0 199 true _ A4.out).mono ?_
     rintro e w' ⟨rfl, ⟨nd, rfl⟩⟩
     refine ⟨_, rfl, ?_⟩
     refine hK.out _ _ ⟨((HB.out.cell (World.block_lt_of_cell? w _ hw164_0)).trans hw164_0), ((HB.out.cell (World.block_lt_of_cell? w _ hw164_1)).trans hw164_1), ((HB.out.cell (World.block_lt_of_cell? w _ hw166_0)).trans hw166_0), ((HB.out.cell (World.block_lt_of_cell? w _ hw166_1)).trans hw166_1), ((HB.out.cell (World.block_lt_of_cell? w _ hw167_0)).trans hw167_0), ((HB.out.cell (World.block_lt_of_cell? w _ hw167_1)).trans hw167_1)⟩ (fun hHeld => ?_)
     clear hK K
     refine nm1_ (some 15) ?_
     refine pu_ 6 16 z35_7 HT_.out ?_
     refine pu_ 7 17 z35_8 HT_.out ?_
     refine pu_ 8 18 z35_9 HT_.out ?_
     refine pu_ 9 19 z35_10 HT_.out ?_
     refine pu_ 10 20 z35_11 HT_.out ?_
     refine pu_ 11 21 z35_12 HT_.out ?_
     refine pu_ 13 23 z35_13 HT_.out ?_
     refine pu_ 14 24 z35_14 HT_.out ?_
     refine pu_ 15 25 z35_15 HT_.out ?_
     refine pu_ 16 26 z35_16 HT_.out ?_
     refine tk_ 12 22 z35_17 HT_.out HW_.out hHeld ?_
     refine tk_ 17 27 z35_18 HT_.out HW_.out hHeld ?_
     refine one_ (i := 18) (N := some 28) z35_19 rfl rfl (one_of HT_.out (by kernel_rfl)) (by decide) (fun K hK => ?_)
     refine go_ Try.func30 #[.int .i64 ((rd_T36 l0 x3_1).f1), .int .i64 ((rd_T36 l0 x3_1).f0), .int .i64 199] ?_
     with_reducible refine (spec_l1In.calls ((rd_T36 l0 x3_1).f1) ((rd_T36 l0 x3_1).f0) 199 false _ A6.out).mono ?_
     rintro e w' ⟨rfl, ⟨nd, rfl⟩⟩
     refine ⟨_, rfl, ?_⟩
     refine hK.out _ _ ⟨((HB.out.cell (World.block_lt_of_cell? w _ hw164_0)).trans hw164_0), ((HB.out.cell (World.block_lt_of_cell? w _ hw164_1)).trans hw164_1), ((HB.out.cell (World.block_lt_of_cell? w _ hw166_0)).trans hw166_0), ((HB.out.cell (World.block_lt_of_cell? w _ hw166_1)).trans hw166_1), ((HB.out.cell (World.block_lt_of_cell? w _ hw167_0)).trans hw167_0), ((HB.out.cell (World.block_lt_of_cell? w _ hw167_1)).trans hw167_1)⟩ (fun hHeld => ?_)
     clear hK K
     refine nm1_ (some 28) ?_
     refine pu_ 19 29 z35_20 HT_.out ?_
     refine pu_ 20 30 z35_21 HT_.out ?_
     refine pu_ 21 31 z35_22 HT_.out ?_
     refine un_ 22 32 z35_23 HT_.out ?_
     refine un_ 23 33 z35_24 HT_.out ?_
     refine un_ 24 34 z35_25 HT_.out ?_
     refine un_ 25 35 z35_26 HT_.out ?_
     refine un_ 26 36 z35_27 HT_.out ?_
     refine un_ 27 37 z35_28 HT_.out ?_
     refine un_ 28 38 z35_29 HT_.out ?_
     refine un_ 29 39 z35_59 HT_.out ?_
     refine un_ 30 40 z35_60 HT_.out ?_
     refine un_ 31 41 z35_61 HT_.out ?_
     refine un_ 32 42 z35_62 HT_.out ?_
     refine un_ 33 43 z35_63 HT_.out ?_
     refine un_ 34 44 z35_35 HT_.out ?_
     refine un_ 35 45 z35_36 HT_.out ?_
     refine un_ 36 46 z35_37 HT_.out ?_
     refine un_ 37 47 z35_38 HT_.out ?_
     refine un_ 38 48 z35_39 HT_.out ?_
     refine un_ 39 49 z35_40 HT_.out ?_
     refine un_ 40 50 z35_41 HT_.out ?_
     refine un_ 41 51 z35_42 HT_.out ?_
     refine un_ 42 52 z35_43 HT_.out ?_
     refine un_ 43 53 z35_44 HT_.out ?_
     refine un_ 44 54 z35_45 HT_.out ?_
     refine un_ 45 55 z35_46 HT_.out ?_
     refine un_ 46 56 z35_47 HT_.out ?_
     refine un_ 47 57 z35_48 HT_.out ?_
     refine un_ 48 58 z35_49 HT_.out ?_
     refine un_ 49 59 z35_50 HT_.out ?_
     refine un_ 50 60 z35_51 HT_.out ?_
     refine un_ 51 61 z35_52 HT_.out ?_
     refine pu_ 52 62 z35_53 HT_.out ?_
     refine done_ (done_of HT_.out (by kernel_rfl)) ?_
     try go_wp2
     go_ret
     exact ⟨nw_, ne_ HB.out⟩
    subst c7
    rw [if_pos rfl] at H
    by_cases c8 : x3_1 > 0
    rotate_left
    ·rw [if_neg c8] at H
     have c8b0 : decide (0 < x3_1) = false := decide_eq_false c8
     clear c8
     have H' := Aside0.mk H
     clear H
     try go_wp2
     replace HB := Aside0.mk (below_drew1 HB.out)
     have p164 : 0 ≤ (x3_1 : Int) := of_decide_eq_true nx_
     have q164 : x3_1 < (l0.length : Int) := of_decide_eq_true nx_
     obtain ⟨ad164, e164, hx164_0, hx164_1⟩ := at_T36 HR0.out x3_1 p164 q164
     have hw164_1 := hx164_1
     have hw164_0 := hx164_0
     cases e164
     replace hx164_0 := hb_ HB.out hx164_0
     replace hx164_1 := hb_ HB.out hx164_1
     replace p164 := eq_true p164
     replace q164 := eq_true q164
     have p166 : 0 ≤ (x3_1 : Int) := of_decide_eq_true nx_
     have q166 : x3_1 < (l0.length : Int) := of_decide_eq_true nx_
     obtain ⟨ad166, e166, hx166_0, hx166_1⟩ := at_T36 HR0.out x3_1 p166 q166
     have hw166_1 := hx166_1
     have hw166_0 := hx166_0
     obtain rfl : ad164 = ad166 := (by injection e166)
     replace hx166_0 := hb_ HB.out hx166_0
     replace hx166_1 := hb_ HB.out hx166_1
     replace p166 := eq_true p166
     replace q166 := eq_true q166
     have p167 : 0 ≤ (x3_1 : Int) := of_decide_eq_true nx_
     have q167 : x3_1 < (l0.length : Int) := of_decide_eq_true nx_
     obtain ⟨ad167, e167, hx167_0, hx167_1⟩ := at_T36 HR0.out x3_1 p167 q167
     have hw167_1 := hx167_1
     have hw167_0 := hx167_0
     obtain rfl : ad164 = ad167 := (by injection e167)
     replace hx167_0 := hb_ HB.out hx167_0
     replace hx167_1 := hb_ HB.out hx167_1
     replace p167 := eq_true p167
     replace q167 := eq_true q167
     refine start_ (n := 53) (S := fun w' => w'.cell? (ad164.add ((x3_1).toNat * 2)) = some (.int .i64 ((rd_T36 l0 x3_1).f0)) ∧ w'.cell? ⟨(ad164.add ((x3_1).toNat * 2)).block, (ad164.add ((x3_1).toNat * 2)).off + 1, none⟩ = some (.int .i64 ((rd_T36 l0 x3_1).f1)) ∧ w'.cell? (ad164.add ((x3_1).toNat * 2)) = some (.int .i64 ((rd_T36 l0 x3_1).f0)) ∧ w'.cell? ⟨(ad164.add ((x3_1).toNat * 2)).block, (ad164.add ((x3_1).toNat * 2)).off + 1, none⟩ = some (.int .i64 ((rd_T36 l0 x3_1).f1)) ∧ w'.cell? (ad164.add ((x3_1).toNat * 2)) = some (.int .i64 ((rd_T36 l0 x3_1).f0)) ∧ w'.cell? ⟨(ad164.add ((x3_1).toNat * 2)).block, (ad164.add ((x3_1).toNat * 2)).off + 1, none⟩ = some (.int .i64 ((rd_T36 l0 x3_1).f1))) (ds := []) z35_0 (by kernel_rfl) rfl rfl ⟨((HB.out.cell (World.block_lt_of_cell? w _ hw164_0)).trans hw164_0), ((HB.out.cell (World.block_lt_of_cell? w _ hw164_1)).trans hw164_1), ((HB.out.cell (World.block_lt_of_cell? w _ hw166_0)).trans hw166_0), ((HB.out.cell (World.block_lt_of_cell? w _ hw166_1)).trans hw166_1), ((HB.out.cell (World.block_lt_of_cell? w _ hw167_0)).trans hw167_0), ((HB.out.cell (World.block_lt_of_cell? w _ hw167_1)).trans hw167_1)⟩ (fun hHeld => ?_); refine with_tabW spec_l5Ok.tab4 spec_l5Ok.bits4 (fun HT_ HW_ => ?_)
     generalize wr.drew = w17 at HB hx164_0 hx164_1 hx166_0 hx166_1 hx167_0 hx167_1 hHeld ⊢
     refine pu_ 0 10 z35_1 HT_.out ?_
     refine pu_ 1 11 z35_2 HT_.out ?_
     refine pu_ 2 12 z35_3 HT_.out ?_
     refine pu_ 3 13 z35_4 HT_.out ?_
     refine tk_ 4 14 z35_5 HT_.out HW_.out hHeld ?_
     refine one_ (i := 5) (N := some 15) z35_6 rfl rfl (one_of HT_.out (by kernel_rfl)) (by decide) (fun K hK => ?_)
     refine go_ Try.func30 #[.int .i64 ((rd_T36 l0 x3_1).f0), .int .i64 0, .int .i64 199] ?_
     with_reducible refine (spec_l1In.calls ((rd_T36 l0 x3_1).f0) 0 199 true _ A4.out).mono ?_
     rintro e w' ⟨rfl, ⟨nd, rfl⟩⟩
     refine ⟨_, rfl, ?_⟩
     refine hK.out _ _ ⟨((HB.out.cell (World.block_lt_of_cell? w _ hw164_0)).trans hw164_0), ((HB.out.cell (World.block_lt_of_cell? w _ hw164_1)).trans hw164_1), ((HB.out.cell (World.block_lt_of_cell? w _ hw166_0)).trans hw166_0), ((HB.out.cell (World.block_lt_of_cell? w _ hw166_1)).trans hw166_1), ((HB.out.cell (World.block_lt_of_cell? w _ hw167_0)).trans hw167_0), ((HB.out.cell (World.block_lt_of_cell? w _ hw167_1)).trans hw167_1)⟩ (fun hHeld => ?_)
     clear hK K
     refine nm1_ (some 15) ?_
     refine pu_ 6 16 z35_7 HT_.out ?_
     refine pu_ 7 17 z35_8 HT_.out ?_
     refine pu_ 8 18 z35_9 HT_.out ?_
     refine pu_ 9 19 z35_10 HT_.out ?_
     refine pu_ 10 20 z35_11 HT_.out ?_
     refine pu_ 11 21 z35_12 HT_.out ?_
     refine pu_ 13 23 z35_13 HT_.out ?_
     refine pu_ 14 24 z35_14 HT_.out ?_
     refine pu_ 15 25 z35_15 HT_.out ?_
     refine pu_ 16 26 z35_16 HT_.out ?_
     refine tk_ 12 22 z35_17 HT_.out HW_.out hHeld ?_
     refine tk_ 17 27 z35_18 HT_.out HW_.out hHeld ?_
     refine one_ (i := 18) (N := some 28) z35_19 rfl rfl (one_of HT_.out (by kernel_rfl)) (by decide) (fun K hK => ?_)
     refine go_ Try.func30 #[.int .i64 ((rd_T36 l0 x3_1).f1), .int .i64 ((rd_T36 l0 x3_1).f0), .int .i64 199] ?_
     with_reducible refine (spec_l1In.calls ((rd_T36 l0 x3_1).f1) ((rd_T36 l0 x3_1).f0) 199 true _ A6.out).mono ?_
     rintro e w' ⟨rfl, ⟨nd, rfl⟩⟩
     refine ⟨_, rfl, ?_⟩
     refine hK.out _ _ ⟨((HB.out.cell (World.block_lt_of_cell? w _ hw164_0)).trans hw164_0), ((HB.out.cell (World.block_lt_of_cell? w _ hw164_1)).trans hw164_1), ((HB.out.cell (World.block_lt_of_cell? w _ hw166_0)).trans hw166_0), ((HB.out.cell (World.block_lt_of_cell? w _ hw166_1)).trans hw166_1), ((HB.out.cell (World.block_lt_of_cell? w _ hw167_0)).trans hw167_0), ((HB.out.cell (World.block_lt_of_cell? w _ hw167_1)).trans hw167_1)⟩ (fun hHeld => ?_)
     clear hK K
     refine nm1_ (some 28) ?_
     refine pu_ 19 29 z35_20 HT_.out ?_
     refine pu_ 20 30 z35_21 HT_.out ?_
     refine pu_ 21 31 z35_22 HT_.out ?_
     refine pu_ 22 32 z35_23 HT_.out ?_
     refine pu_ 23 33 z35_24 HT_.out ?_
     refine pu_ 24 34 z35_25 HT_.out ?_
     refine un_ 25 35 z35_26 HT_.out ?_
     refine un_ 26 36 z35_27 HT_.out ?_
     refine un_ 27 37 z35_28 HT_.out ?_
     refine un_ 28 38 z35_29 HT_.out ?_
     refine un_ 29 39 z35_59 HT_.out ?_
     refine un_ 30 40 z35_60 HT_.out ?_
     refine un_ 31 41 z35_61 HT_.out ?_
     refine un_ 32 42 z35_62 HT_.out ?_
     refine un_ 33 43 z35_63 HT_.out ?_
     refine un_ 34 44 z35_35 HT_.out ?_
     refine un_ 35 45 z35_36 HT_.out ?_
     refine un_ 36 46 z35_37 HT_.out ?_
     refine un_ 37 47 z35_38 HT_.out ?_
     refine un_ 38 48 z35_39 HT_.out ?_
     refine un_ 39 49 z35_40 HT_.out ?_
     refine un_ 40 50 z35_41 HT_.out ?_
     refine un_ 41 51 z35_42 HT_.out ?_
     refine un_ 42 52 z35_43 HT_.out ?_
     refine un_ 43 53 z35_44 HT_.out ?_
     refine un_ 44 54 z35_45 HT_.out ?_
     refine un_ 45 55 z35_46 HT_.out ?_
     refine un_ 46 56 z35_47 HT_.out ?_
     refine un_ 47 57 z35_48 HT_.out ?_
     refine un_ 48 58 z35_49 HT_.out ?_
     refine un_ 49 59 z35_50 HT_.out ?_
     refine un_ 50 60 z35_51 HT_.out ?_
     refine pu_ 51 61 z35_52 HT_.out ?_
     refine pu_ 52 62 z35_53 HT_.out ?_
     refine done_ (done_of HT_.out (by kernel_rfl)) ?_
     try go_wp2
     go_roundg k1
     case measure => have := HK1.out; omega
     case rel => exact ⟨(wrap64 (x3_1 + 1)), ns_, H', ⟨by have := HK1.out; omega⟩, ⟨ne_ HB.out⟩⟩
    rw [if_pos c8] at H
    have c8b0 : decide (0 < x3_1) = true := decide_eq_true c8
    clear c8
    obtain ⟨ji9, hji9⟩ : ∃ j_ : Int, (wrap64 (x3_1 - 1)) = j_ := ⟨_, rfl⟩
    replace H : (if 0 ≤ (ji9) then (if (ji9) < (l0.length : Int) then (if ((rd_T36 l0 x3_1).f0) ≤ ((rd_T36 l0 (ji9)).f0) then (some false) else (if ((rd_T36 l0 x3_1).f1) ≤ ((rd_T36 l0 (ji9)).f1) then (some false) else (spec_l5Ok.l0 k1 l0 (wrap64 (x3_1 + 1))))) else (none)) else (none)) = some r := by first | (rw [hji9] at H; exact H) | (simp only [hji9] at H ⊢; exact H)
    (try rw [hji9] at A4)
    (try rw [hji9] at A6)
    have hji9w : (IntKind.i64.wrap (x3_1 - 1)) = ji9 := (i64_w _).trans hji9
    by_cases c10 : 0 ≤ (ji9)
    rotate_left
    ·rw [if_neg c10] at H
     exact absurd H (by simp)
    rw [if_pos c10] at H
    have c10b0 : decide (0 ≤ (ji9)) = true := decide_eq_true c10
    clear c10
    by_cases c11 : (ji9) < (l0.length : Int)
    rotate_left
    ·rw [if_neg c11] at H
     exact absurd H (by simp)
    rw [if_pos c11] at H
    have c11b0 : decide ((ji9) < (l0.length : Int)) = true := decide_eq_true c11
    clear c11
    by_cases c12 : ((rd_T36 l0 x3_1).f0) ≤ ((rd_T36 l0 (ji9)).f0)
    ·rw [if_pos c12] at H
     have c12b0 : decide (((rd_T36 l0 x3_1).f0) ≤ ((rd_T36 l0 (ji9)).f0)) = true := decide_eq_true c12
     clear c12
     obtain rfl := Option.some.inj H
     try go_wp2
     replace HB := Aside0.mk (below_drew1 HB.out)
     have p164 : 0 ≤ (x3_1 : Int) := of_decide_eq_true nx_
     have q164 : x3_1 < (l0.length : Int) := of_decide_eq_true nx_
     obtain ⟨ad164, e164, hx164_0, hx164_1⟩ := at_T36 HR0.out x3_1 p164 q164
     have hw164_1 := hx164_1
     have hw164_0 := hx164_0
     cases e164
     replace hx164_0 := hb_ HB.out hx164_0
     replace hx164_1 := hb_ HB.out hx164_1
     replace p164 := eq_true p164
     replace q164 := eq_true q164
     have p166 : 0 ≤ (x3_1 : Int) := of_decide_eq_true nx_
     have q166 : x3_1 < (l0.length : Int) := of_decide_eq_true nx_
     obtain ⟨ad166, e166, hx166_0, hx166_1⟩ := at_T36 HR0.out x3_1 p166 q166
     have hw166_1 := hx166_1
     have hw166_0 := hx166_0
     obtain rfl : ad164 = ad166 := (by injection e166)
     replace hx166_0 := hb_ HB.out hx166_0
     replace hx166_1 := hb_ HB.out hx166_1
     replace p166 := eq_true p166
     replace q166 := eq_true q166
     have p167 : 0 ≤ (x3_1 : Int) := of_decide_eq_true nx_
     have q167 : x3_1 < (l0.length : Int) := of_decide_eq_true nx_
     obtain ⟨ad167, e167, hx167_0, hx167_1⟩ := at_T36 HR0.out x3_1 p167 q167
     have hw167_1 := hx167_1
     have hw167_0 := hx167_0
     obtain rfl : ad164 = ad167 := (by injection e167)
     replace hx167_0 := hb_ HB.out hx167_0
     replace hx167_1 := hb_ HB.out hx167_1
     replace p167 := eq_true p167
     replace q167 := eq_true q167
     have p169 : 0 ≤ (x3_1 : Int) := of_decide_eq_true nx_
     have q169 : x3_1 < (l0.length : Int) := of_decide_eq_true nx_
     obtain ⟨ad169, e169, hx169_0, hx169_1⟩ := at_T36 HR0.out x3_1 p169 q169
     have hw169_1 := hx169_1
     have hw169_0 := hx169_0
     obtain rfl : ad164 = ad169 := (by injection e169)
     replace hx169_0 := hb_ HB.out hx169_0
     replace hx169_1 := hb_ HB.out hx169_1
     replace p169 := eq_true p169
     replace q169 := eq_true q169
     have p170 : 0 ≤ ((ji9) : Int) := of_decide_eq_true nx_
     have q170 : (ji9) < (l0.length : Int) := of_decide_eq_true nx_
     obtain ⟨ad170, e170, hx170_0, hx170_1⟩ := at_T36 HR0.out (ji9) p170 q170
     have hw170_1 := hx170_1
     have hw170_0 := hx170_0
     obtain rfl : ad164 = ad170 := (by injection e170)
     replace hx170_0 := hb_ HB.out hx170_0
     replace hx170_1 := hb_ HB.out hx170_1
     replace p170 := eq_true p170
     replace q170 := eq_true q170
     refine start_ (n := 53) (S := fun w' => w'.cell? (ad164.add ((x3_1).toNat * 2)) = some (.int .i64 ((rd_T36 l0 x3_1).f0)) ∧ w'.cell? ⟨(ad164.add ((x3_1).toNat * 2)).block, (ad164.add ((x3_1).toNat * 2)).off + 1, none⟩ = some (.int .i64 ((rd_T36 l0 x3_1).f1)) ∧ w'.cell? (ad164.add ((x3_1).toNat * 2)) = some (.int .i64 ((rd_T36 l0 x3_1).f0)) ∧ w'.cell? ⟨(ad164.add ((x3_1).toNat * 2)).block, (ad164.add ((x3_1).toNat * 2)).off + 1, none⟩ = some (.int .i64 ((rd_T36 l0 x3_1).f1)) ∧ w'.cell? (ad164.add ((x3_1).toNat * 2)) = some (.int .i64 ((rd_T36 l0 x3_1).f0)) ∧ w'.cell? ⟨(ad164.add ((x3_1).toNat * 2)).block, (ad164.add ((x3_1).toNat * 2)).off + 1, none⟩ = some (.int .i64 ((rd_T36 l0 x3_1).f1)) ∧ w'.cell? (ad164.add ((x3_1).toNat * 2)) = some (.int .i64 ((rd_T36 l0 x3_1).f0)) ∧ w'.cell? ⟨(ad164.add ((x3_1).toNat * 2)).block, (ad164.add ((x3_1).toNat * 2)).off + 1, none⟩ = some (.int .i64 ((rd_T36 l0 x3_1).f1)) ∧ w'.cell? (ad164.add (((ji9)).toNat * 2)) = some (.int .i64 ((rd_T36 l0 (ji9)).f0)) ∧ w'.cell? ⟨(ad164.add (((ji9)).toNat * 2)).block, (ad164.add (((ji9)).toNat * 2)).off + 1, none⟩ = some (.int .i64 ((rd_T36 l0 (ji9)).f1))) (ds := []) z35_0 (by kernel_rfl) rfl rfl ⟨((HB.out.cell (World.block_lt_of_cell? w _ hw164_0)).trans hw164_0), ((HB.out.cell (World.block_lt_of_cell? w _ hw164_1)).trans hw164_1), ((HB.out.cell (World.block_lt_of_cell? w _ hw166_0)).trans hw166_0), ((HB.out.cell (World.block_lt_of_cell? w _ hw166_1)).trans hw166_1), ((HB.out.cell (World.block_lt_of_cell? w _ hw167_0)).trans hw167_0), ((HB.out.cell (World.block_lt_of_cell? w _ hw167_1)).trans hw167_1), ((HB.out.cell (World.block_lt_of_cell? w _ hw169_0)).trans hw169_0), ((HB.out.cell (World.block_lt_of_cell? w _ hw169_1)).trans hw169_1), ((HB.out.cell (World.block_lt_of_cell? w _ hw170_0)).trans hw170_0), ((HB.out.cell (World.block_lt_of_cell? w _ hw170_1)).trans hw170_1)⟩ (fun hHeld => ?_); refine with_tabW spec_l5Ok.tab4 spec_l5Ok.bits4 (fun HT_ HW_ => ?_)
     generalize wr.drew = w13 at HB hx164_0 hx164_1 hx166_0 hx166_1 hx167_0 hx167_1 hx169_0 hx169_1 hx170_0 hx170_1 hHeld ⊢
     refine pu_ 0 10 z35_1 HT_.out ?_
     refine pu_ 1 11 z35_2 HT_.out ?_
     refine pu_ 2 12 z35_3 HT_.out ?_
     refine pu_ 3 13 z35_4 HT_.out ?_
     refine tk_ 4 14 z35_5 HT_.out HW_.out hHeld ?_
     refine one_ (i := 5) (N := some 15) z35_6 rfl rfl (one_of HT_.out (by kernel_rfl)) (by decide) (fun K hK => ?_)
     refine go_ Try.func30 #[.int .i64 ((rd_T36 l0 x3_1).f0), .int .i64 0, .int .i64 199] ?_
     with_reducible refine (spec_l1In.calls ((rd_T36 l0 x3_1).f0) 0 199 true _ A4.out).mono ?_
     rintro e w' ⟨rfl, ⟨nd, rfl⟩⟩
     refine ⟨_, rfl, ?_⟩
     refine hK.out _ _ ⟨((HB.out.cell (World.block_lt_of_cell? w _ hw164_0)).trans hw164_0), ((HB.out.cell (World.block_lt_of_cell? w _ hw164_1)).trans hw164_1), ((HB.out.cell (World.block_lt_of_cell? w _ hw166_0)).trans hw166_0), ((HB.out.cell (World.block_lt_of_cell? w _ hw166_1)).trans hw166_1), ((HB.out.cell (World.block_lt_of_cell? w _ hw167_0)).trans hw167_0), ((HB.out.cell (World.block_lt_of_cell? w _ hw167_1)).trans hw167_1), ((HB.out.cell (World.block_lt_of_cell? w _ hw169_0)).trans hw169_0), ((HB.out.cell (World.block_lt_of_cell? w _ hw169_1)).trans hw169_1), ((HB.out.cell (World.block_lt_of_cell? w _ hw170_0)).trans hw170_0), ((HB.out.cell (World.block_lt_of_cell? w _ hw170_1)).trans hw170_1)⟩ (fun hHeld => ?_)
     clear hK K
     refine nm1_ (some 15) ?_
     refine pu_ 6 16 z35_7 HT_.out ?_
     refine pu_ 7 17 z35_8 HT_.out ?_
     refine pu_ 8 18 z35_9 HT_.out ?_
     refine pu_ 9 19 z35_10 HT_.out ?_
     refine pu_ 10 20 z35_11 HT_.out ?_
     refine pu_ 11 21 z35_12 HT_.out ?_
     refine pu_ 13 23 z35_13 HT_.out ?_
     refine pu_ 14 24 z35_14 HT_.out ?_
     refine pu_ 15 25 z35_15 HT_.out ?_
     refine pu_ 16 26 z35_16 HT_.out ?_
     refine tk_ 12 22 z35_17 HT_.out HW_.out hHeld ?_
     refine tk_ 17 27 z35_18 HT_.out HW_.out hHeld ?_
     refine one_ (i := 18) (N := some 28) z35_19 rfl rfl (one_of HT_.out (by kernel_rfl)) (by decide) (fun K hK => ?_)
     refine go_ Try.func30 #[.int .i64 ((rd_T36 l0 x3_1).f1), .int .i64 ((rd_T36 l0 x3_1).f0), .int .i64 199] ?_
     with_reducible refine (spec_l1In.calls ((rd_T36 l0 x3_1).f1) ((rd_T36 l0 x3_1).f0) 199 true _ A6.out).mono ?_
     rintro e w' ⟨rfl, ⟨nd, rfl⟩⟩
     refine ⟨_, rfl, ?_⟩
     refine hK.out _ _ ⟨((HB.out.cell (World.block_lt_of_cell? w _ hw164_0)).trans hw164_0), ((HB.out.cell (World.block_lt_of_cell? w _ hw164_1)).trans hw164_1), ((HB.out.cell (World.block_lt_of_cell? w _ hw166_0)).trans hw166_0), ((HB.out.cell (World.block_lt_of_cell? w _ hw166_1)).trans hw166_1), ((HB.out.cell (World.block_lt_of_cell? w _ hw167_0)).trans hw167_0), ((HB.out.cell (World.block_lt_of_cell? w _ hw167_1)).trans hw167_1), ((HB.out.cell (World.block_lt_of_cell? w _ hw169_0)).trans hw169_0), ((HB.out.cell (World.block_lt_of_cell? w _ hw169_1)).trans hw169_1), ((HB.out.cell (World.block_lt_of_cell? w _ hw170_0)).trans hw170_0), ((HB.out.cell (World.block_lt_of_cell? w _ hw170_1)).trans hw170_1)⟩ (fun hHeld => ?_)
     clear hK K
     refine nm1_ (some 28) ?_
     refine pu_ 19 29 z35_20 HT_.out ?_
     refine pu_ 20 30 z35_21 HT_.out ?_
     refine pu_ 21 31 z35_22 HT_.out ?_
     refine pu_ 22 32 z35_23 HT_.out ?_
     refine pu_ 23 33 z35_24 HT_.out ?_
     refine pu_ 24 34 z35_25 HT_.out ?_
     refine pu_ 25 35 z35_26 HT_.out ?_
     refine pu_ 26 36 z35_27 HT_.out ?_
     refine pu_ 27 37 z35_28 HT_.out ?_
     refine pu_ 28 38 z35_29 HT_.out ?_
     refine pu_ 30 40 z35_30 HT_.out ?_
     refine pu_ 31 41 z35_31 HT_.out ?_
     refine pu_ 32 42 z35_32 HT_.out ?_
     refine pu_ 33 43 z35_33 HT_.out ?_
     refine pu_ 34 44 z35_34 HT_.out ?_
     refine tk_ 29 39 z35_35 HT_.out HW_.out hHeld ?_
     refine tk_ 35 45 z35_36 HT_.out HW_.out hHeld ?_
     refine pu_ 36 46 z35_37 HT_.out ?_
     refine pu_ 37 47 z35_38 HT_.out ?_
     refine un_ 38 48 z35_39 HT_.out ?_
     refine un_ 39 49 z35_40 HT_.out ?_
     refine un_ 40 50 z35_41 HT_.out ?_
     refine un_ 41 51 z35_42 HT_.out ?_
     refine un_ 42 52 z35_43 HT_.out ?_
     refine un_ 43 53 z35_44 HT_.out ?_
     refine un_ 44 54 z35_45 HT_.out ?_
     refine un_ 45 55 z35_46 HT_.out ?_
     refine un_ 46 56 z35_47 HT_.out ?_
     refine un_ 47 57 z35_48 HT_.out ?_
     refine un_ 48 58 z35_49 HT_.out ?_
     refine un_ 49 59 z35_50 HT_.out ?_
     refine pu_ 50 60 z35_51 HT_.out ?_
     refine pu_ 51 61 z35_52 HT_.out ?_
     refine pu_ 52 62 z35_53 HT_.out ?_
     refine done_ (done_of HT_.out (by kernel_rfl)) ?_
     try go_wp2
     go_ret
     exact ⟨by first | rfl | (simp [errW_none, errW_some] <;> rfl) | (simp only [← hji9]; first | rfl | (simp [errW_none, errW_some] <;> rfl)) | (simp [*, errW_none, errW_some] <;> rfl), ne_ HB.out⟩
    rw [if_neg c12] at H
    have c12b0 : decide (((rd_T36 l0 x3_1).f0) ≤ ((rd_T36 l0 (ji9)).f0)) = false := decide_eq_false c12
    clear c12
    by_cases c14 : ((rd_T36 l0 x3_1).f1) ≤ ((rd_T36 l0 (ji9)).f1)
    rotate_left
    ·rw [if_neg c14] at H
     have c14b0 : decide (((rd_T36 l0 x3_1).f1) ≤ ((rd_T36 l0 (ji9)).f1)) = false := decide_eq_false c14
     clear c14
     have H' := Aside0.mk H
     clear H
     try go_wp2
     replace HB := Aside0.mk (below_drew1 HB.out)
     have p164 : 0 ≤ (x3_1 : Int) := of_decide_eq_true nx_
     have q164 : x3_1 < (l0.length : Int) := of_decide_eq_true nx_
     obtain ⟨ad164, e164, hx164_0, hx164_1⟩ := at_T36 HR0.out x3_1 p164 q164
     have hw164_1 := hx164_1
     have hw164_0 := hx164_0
     cases e164
     replace hx164_0 := hb_ HB.out hx164_0
     replace hx164_1 := hb_ HB.out hx164_1
     replace p164 := eq_true p164
     replace q164 := eq_true q164
     have p166 : 0 ≤ (x3_1 : Int) := of_decide_eq_true nx_
     have q166 : x3_1 < (l0.length : Int) := of_decide_eq_true nx_
     obtain ⟨ad166, e166, hx166_0, hx166_1⟩ := at_T36 HR0.out x3_1 p166 q166
     have hw166_1 := hx166_1
     have hw166_0 := hx166_0
     obtain rfl : ad164 = ad166 := (by injection e166)
     replace hx166_0 := hb_ HB.out hx166_0
     replace hx166_1 := hb_ HB.out hx166_1
     replace p166 := eq_true p166
     replace q166 := eq_true q166
     have p167 : 0 ≤ (x3_1 : Int) := of_decide_eq_true nx_
     have q167 : x3_1 < (l0.length : Int) := of_decide_eq_true nx_
     obtain ⟨ad167, e167, hx167_0, hx167_1⟩ := at_T36 HR0.out x3_1 p167 q167
     have hw167_1 := hx167_1
     have hw167_0 := hx167_0
     obtain rfl : ad164 = ad167 := (by injection e167)
     replace hx167_0 := hb_ HB.out hx167_0
     replace hx167_1 := hb_ HB.out hx167_1
     replace p167 := eq_true p167
     replace q167 := eq_true q167
     have p169 : 0 ≤ (x3_1 : Int) := of_decide_eq_true nx_
     have q169 : x3_1 < (l0.length : Int) := of_decide_eq_true nx_
     obtain ⟨ad169, e169, hx169_0, hx169_1⟩ := at_T36 HR0.out x3_1 p169 q169
     have hw169_1 := hx169_1
     have hw169_0 := hx169_0
     obtain rfl : ad164 = ad169 := (by injection e169)
     replace hx169_0 := hb_ HB.out hx169_0
     replace hx169_1 := hb_ HB.out hx169_1
     replace p169 := eq_true p169
     replace q169 := eq_true q169
     have p170 : 0 ≤ ((ji9) : Int) := of_decide_eq_true nx_
     have q170 : (ji9) < (l0.length : Int) := of_decide_eq_true nx_
     obtain ⟨ad170, e170, hx170_0, hx170_1⟩ := at_T36 HR0.out (ji9) p170 q170
     have hw170_1 := hx170_1
     have hw170_0 := hx170_0
     obtain rfl : ad164 = ad170 := (by injection e170)
     replace hx170_0 := hb_ HB.out hx170_0
     replace hx170_1 := hb_ HB.out hx170_1
     replace p170 := eq_true p170
     replace q170 := eq_true q170
     have p171 : 0 ≤ (x3_1 : Int) := of_decide_eq_true nx_
     have q171 : x3_1 < (l0.length : Int) := of_decide_eq_true nx_
     obtain ⟨ad171, e171, hx171_0, hx171_1⟩ := at_T36 HR0.out x3_1 p171 q171
     have hw171_1 := hx171_1
     have hw171_0 := hx171_0
     obtain rfl : ad164 = ad171 := (by injection e171)
     replace hx171_0 := hb_ HB.out hx171_0
     replace hx171_1 := hb_ HB.out hx171_1
     replace p171 := eq_true p171
     replace q171 := eq_true q171
     have p172 : 0 ≤ ((ji9) : Int) := of_decide_eq_true nx_
     have q172 : (ji9) < (l0.length : Int) := of_decide_eq_true nx_
     obtain ⟨ad172, e172, hx172_0, hx172_1⟩ := at_T36 HR0.out (ji9) p172 q172
     have hw172_1 := hx172_1
     have hw172_0 := hx172_0
     obtain rfl : ad164 = ad172 := (by injection e172)
     replace hx172_0 := hb_ HB.out hx172_0
     replace hx172_1 := hb_ HB.out hx172_1
     replace p172 := eq_true p172
     replace q172 := eq_true q172
     refine start_ (n := 53) (S := fun w' => w'.cell? (ad164.add ((x3_1).toNat * 2)) = some (.int .i64 ((rd_T36 l0 x3_1).f0)) ∧ w'.cell? ⟨(ad164.add ((x3_1).toNat * 2)).block, (ad164.add ((x3_1).toNat * 2)).off + 1, none⟩ = some (.int .i64 ((rd_T36 l0 x3_1).f1)) ∧ w'.cell? (ad164.add ((x3_1).toNat * 2)) = some (.int .i64 ((rd_T36 l0 x3_1).f0)) ∧ w'.cell? ⟨(ad164.add ((x3_1).toNat * 2)).block, (ad164.add ((x3_1).toNat * 2)).off + 1, none⟩ = some (.int .i64 ((rd_T36 l0 x3_1).f1)) ∧ w'.cell? (ad164.add ((x3_1).toNat * 2)) = some (.int .i64 ((rd_T36 l0 x3_1).f0)) ∧ w'.cell? ⟨(ad164.add ((x3_1).toNat * 2)).block, (ad164.add ((x3_1).toNat * 2)).off + 1, none⟩ = some (.int .i64 ((rd_T36 l0 x3_1).f1)) ∧ w'.cell? (ad164.add ((x3_1).toNat * 2)) = some (.int .i64 ((rd_T36 l0 x3_1).f0)) ∧ w'.cell? ⟨(ad164.add ((x3_1).toNat * 2)).block, (ad164.add ((x3_1).toNat * 2)).off + 1, none⟩ = some (.int .i64 ((rd_T36 l0 x3_1).f1)) ∧ w'.cell? (ad164.add (((ji9)).toNat * 2)) = some (.int .i64 ((rd_T36 l0 (ji9)).f0)) ∧ w'.cell? ⟨(ad164.add (((ji9)).toNat * 2)).block, (ad164.add (((ji9)).toNat * 2)).off + 1, none⟩ = some (.int .i64 ((rd_T36 l0 (ji9)).f1)) ∧ w'.cell? (ad164.add ((x3_1).toNat * 2)) = some (.int .i64 ((rd_T36 l0 x3_1).f0)) ∧ w'.cell? ⟨(ad164.add ((x3_1).toNat * 2)).block, (ad164.add ((x3_1).toNat * 2)).off + 1, none⟩ = some (.int .i64 ((rd_T36 l0 x3_1).f1)) ∧ w'.cell? (ad164.add (((ji9)).toNat * 2)) = some (.int .i64 ((rd_T36 l0 (ji9)).f0)) ∧ w'.cell? ⟨(ad164.add (((ji9)).toNat * 2)).block, (ad164.add (((ji9)).toNat * 2)).off + 1, none⟩ = some (.int .i64 ((rd_T36 l0 (ji9)).f1))) (ds := []) z35_0 (by kernel_rfl) rfl rfl ⟨((HB.out.cell (World.block_lt_of_cell? w _ hw164_0)).trans hw164_0), ((HB.out.cell (World.block_lt_of_cell? w _ hw164_1)).trans hw164_1), ((HB.out.cell (World.block_lt_of_cell? w _ hw166_0)).trans hw166_0), ((HB.out.cell (World.block_lt_of_cell? w _ hw166_1)).trans hw166_1), ((HB.out.cell (World.block_lt_of_cell? w _ hw167_0)).trans hw167_0), ((HB.out.cell (World.block_lt_of_cell? w _ hw167_1)).trans hw167_1), ((HB.out.cell (World.block_lt_of_cell? w _ hw169_0)).trans hw169_0), ((HB.out.cell (World.block_lt_of_cell? w _ hw169_1)).trans hw169_1), ((HB.out.cell (World.block_lt_of_cell? w _ hw170_0)).trans hw170_0), ((HB.out.cell (World.block_lt_of_cell? w _ hw170_1)).trans hw170_1), ((HB.out.cell (World.block_lt_of_cell? w _ hw171_0)).trans hw171_0), ((HB.out.cell (World.block_lt_of_cell? w _ hw171_1)).trans hw171_1), ((HB.out.cell (World.block_lt_of_cell? w _ hw172_0)).trans hw172_0), ((HB.out.cell (World.block_lt_of_cell? w _ hw172_1)).trans hw172_1)⟩ (fun hHeld => ?_); refine with_tabW spec_l5Ok.tab4 spec_l5Ok.bits4 (fun HT_ HW_ => ?_)
     generalize wr.drew = w16 at HB hx164_0 hx164_1 hx166_0 hx166_1 hx167_0 hx167_1 hx169_0 hx169_1 hx170_0 hx170_1 hx171_0 hx171_1 hx172_0 hx172_1 hHeld ⊢
     refine pu_ 0 10 z35_1 HT_.out ?_
     refine pu_ 1 11 z35_2 HT_.out ?_
     refine pu_ 2 12 z35_3 HT_.out ?_
     refine pu_ 3 13 z35_4 HT_.out ?_
     refine tk_ 4 14 z35_5 HT_.out HW_.out hHeld ?_
     refine one_ (i := 5) (N := some 15) z35_6 rfl rfl (one_of HT_.out (by kernel_rfl)) (by decide) (fun K hK => ?_)
     refine go_ Try.func30 #[.int .i64 ((rd_T36 l0 x3_1).f0), .int .i64 0, .int .i64 199] ?_
     with_reducible refine (spec_l1In.calls ((rd_T36 l0 x3_1).f0) 0 199 true _ A4.out).mono ?_
     rintro e w' ⟨rfl, ⟨nd, rfl⟩⟩
     refine ⟨_, rfl, ?_⟩
     refine hK.out _ _ ⟨((HB.out.cell (World.block_lt_of_cell? w _ hw164_0)).trans hw164_0), ((HB.out.cell (World.block_lt_of_cell? w _ hw164_1)).trans hw164_1), ((HB.out.cell (World.block_lt_of_cell? w _ hw166_0)).trans hw166_0), ((HB.out.cell (World.block_lt_of_cell? w _ hw166_1)).trans hw166_1), ((HB.out.cell (World.block_lt_of_cell? w _ hw167_0)).trans hw167_0), ((HB.out.cell (World.block_lt_of_cell? w _ hw167_1)).trans hw167_1), ((HB.out.cell (World.block_lt_of_cell? w _ hw169_0)).trans hw169_0), ((HB.out.cell (World.block_lt_of_cell? w _ hw169_1)).trans hw169_1), ((HB.out.cell (World.block_lt_of_cell? w _ hw170_0)).trans hw170_0), ((HB.out.cell (World.block_lt_of_cell? w _ hw170_1)).trans hw170_1), ((HB.out.cell (World.block_lt_of_cell? w _ hw171_0)).trans hw171_0), ((HB.out.cell (World.block_lt_of_cell? w _ hw171_1)).trans hw171_1), ((HB.out.cell (World.block_lt_of_cell? w _ hw172_0)).trans hw172_0), ((HB.out.cell (World.block_lt_of_cell? w _ hw172_1)).trans hw172_1)⟩ (fun hHeld => ?_)
     clear hK K
     refine nm1_ (some 15) ?_
     refine pu_ 6 16 z35_7 HT_.out ?_
     refine pu_ 7 17 z35_8 HT_.out ?_
     refine pu_ 8 18 z35_9 HT_.out ?_
     refine pu_ 9 19 z35_10 HT_.out ?_
     refine pu_ 10 20 z35_11 HT_.out ?_
     refine pu_ 11 21 z35_12 HT_.out ?_
     refine pu_ 13 23 z35_13 HT_.out ?_
     refine pu_ 14 24 z35_14 HT_.out ?_
     refine pu_ 15 25 z35_15 HT_.out ?_
     refine pu_ 16 26 z35_16 HT_.out ?_
     refine tk_ 12 22 z35_17 HT_.out HW_.out hHeld ?_
     refine tk_ 17 27 z35_18 HT_.out HW_.out hHeld ?_
     refine one_ (i := 18) (N := some 28) z35_19 rfl rfl (one_of HT_.out (by kernel_rfl)) (by decide) (fun K hK => ?_)
     refine go_ Try.func30 #[.int .i64 ((rd_T36 l0 x3_1).f1), .int .i64 ((rd_T36 l0 x3_1).f0), .int .i64 199] ?_
     with_reducible refine (spec_l1In.calls ((rd_T36 l0 x3_1).f1) ((rd_T36 l0 x3_1).f0) 199 true _ A6.out).mono ?_
     rintro e w' ⟨rfl, ⟨nd, rfl⟩⟩
     refine ⟨_, rfl, ?_⟩
     refine hK.out _ _ ⟨((HB.out.cell (World.block_lt_of_cell? w _ hw164_0)).trans hw164_0), ((HB.out.cell (World.block_lt_of_cell? w _ hw164_1)).trans hw164_1), ((HB.out.cell (World.block_lt_of_cell? w _ hw166_0)).trans hw166_0), ((HB.out.cell (World.block_lt_of_cell? w _ hw166_1)).trans hw166_1), ((HB.out.cell (World.block_lt_of_cell? w _ hw167_0)).trans hw167_0), ((HB.out.cell (World.block_lt_of_cell? w _ hw167_1)).trans hw167_1), ((HB.out.cell (World.block_lt_of_cell? w _ hw169_0)).trans hw169_0), ((HB.out.cell (World.block_lt_of_cell? w _ hw169_1)).trans hw169_1), ((HB.out.cell (World.block_lt_of_cell? w _ hw170_0)).trans hw170_0), ((HB.out.cell (World.block_lt_of_cell? w _ hw170_1)).trans hw170_1), ((HB.out.cell (World.block_lt_of_cell? w _ hw171_0)).trans hw171_0), ((HB.out.cell (World.block_lt_of_cell? w _ hw171_1)).trans hw171_1), ((HB.out.cell (World.block_lt_of_cell? w _ hw172_0)).trans hw172_0), ((HB.out.cell (World.block_lt_of_cell? w _ hw172_1)).trans hw172_1)⟩ (fun hHeld => ?_)
     clear hK K
     refine nm1_ (some 28) ?_
     refine pu_ 19 29 z35_20 HT_.out ?_
     refine pu_ 20 30 z35_21 HT_.out ?_
     refine pu_ 21 31 z35_22 HT_.out ?_
     refine pu_ 22 32 z35_23 HT_.out ?_
     refine pu_ 23 33 z35_24 HT_.out ?_
     refine pu_ 24 34 z35_25 HT_.out ?_
     refine pu_ 25 35 z35_26 HT_.out ?_
     refine pu_ 26 36 z35_27 HT_.out ?_
     refine pu_ 27 37 z35_28 HT_.out ?_
     refine pu_ 28 38 z35_29 HT_.out ?_
     refine pu_ 30 40 z35_30 HT_.out ?_
     refine pu_ 31 41 z35_31 HT_.out ?_
     refine pu_ 32 42 z35_32 HT_.out ?_
     refine pu_ 33 43 z35_33 HT_.out ?_
     refine pu_ 34 44 z35_34 HT_.out ?_
     refine tk_ 29 39 z35_35 HT_.out HW_.out hHeld ?_
     refine tk_ 35 45 z35_36 HT_.out HW_.out hHeld ?_
     refine pu_ 36 46 z35_37 HT_.out ?_
     refine pu_ 37 47 z35_38 HT_.out ?_
     refine pu_ 38 48 z35_39 HT_.out ?_
     refine pu_ 39 49 z35_40 HT_.out ?_
     refine pu_ 40 50 z35_41 HT_.out ?_
     refine pu_ 41 51 z35_42 HT_.out ?_
     refine pu_ 43 53 z35_54 HT_.out ?_
     refine pu_ 44 54 z35_55 HT_.out ?_
     refine pu_ 45 55 z35_56 HT_.out ?_
     refine pu_ 46 56 z35_57 HT_.out ?_
     refine pu_ 47 57 z35_58 HT_.out ?_
     refine tk_ 42 52 z35_48 HT_.out HW_.out hHeld ?_
     refine tk_ 48 58 z35_49 HT_.out HW_.out hHeld ?_
     refine pu_ 49 59 z35_50 HT_.out ?_
     refine pu_ 50 60 z35_51 HT_.out ?_
     refine pu_ 51 61 z35_52 HT_.out ?_
     refine pu_ 52 62 z35_53 HT_.out ?_
     refine done_ (done_of HT_.out (by kernel_rfl)) ?_
     try go_wp2
     go_roundg k1
     case measure => have := HK1.out; omega
     case rel => exact ⟨(wrap64 (x3_1 + 1)), ns_, H', ⟨by have := HK1.out; omega⟩, ⟨ne_ HB.out⟩⟩
    rw [if_pos c14] at H
    have c14b0 : decide (((rd_T36 l0 x3_1).f1) ≤ ((rd_T36 l0 (ji9)).f1)) = true := decide_eq_true c14
    clear c14
    obtain rfl := Option.some.inj H
    try go_wp2
    replace HB := Aside0.mk (below_drew1 HB.out)
    have p164 : 0 ≤ (x3_1 : Int) := of_decide_eq_true nx_
    have q164 : x3_1 < (l0.length : Int) := of_decide_eq_true nx_
    obtain ⟨ad164, e164, hx164_0, hx164_1⟩ := at_T36 HR0.out x3_1 p164 q164
    have hw164_1 := hx164_1
    have hw164_0 := hx164_0
    cases e164
    replace hx164_0 := hb_ HB.out hx164_0
    replace hx164_1 := hb_ HB.out hx164_1
    replace p164 := eq_true p164
    replace q164 := eq_true q164
    have p166 : 0 ≤ (x3_1 : Int) := of_decide_eq_true nx_
    have q166 : x3_1 < (l0.length : Int) := of_decide_eq_true nx_
    obtain ⟨ad166, e166, hx166_0, hx166_1⟩ := at_T36 HR0.out x3_1 p166 q166
    have hw166_1 := hx166_1
    have hw166_0 := hx166_0
    obtain rfl : ad164 = ad166 := (by injection e166)
    replace hx166_0 := hb_ HB.out hx166_0
    replace hx166_1 := hb_ HB.out hx166_1
    replace p166 := eq_true p166
    replace q166 := eq_true q166
    have p167 : 0 ≤ (x3_1 : Int) := of_decide_eq_true nx_
    have q167 : x3_1 < (l0.length : Int) := of_decide_eq_true nx_
    obtain ⟨ad167, e167, hx167_0, hx167_1⟩ := at_T36 HR0.out x3_1 p167 q167
    have hw167_1 := hx167_1
    have hw167_0 := hx167_0
    obtain rfl : ad164 = ad167 := (by injection e167)
    replace hx167_0 := hb_ HB.out hx167_0
    replace hx167_1 := hb_ HB.out hx167_1
    replace p167 := eq_true p167
    replace q167 := eq_true q167
    have p169 : 0 ≤ (x3_1 : Int) := of_decide_eq_true nx_
    have q169 : x3_1 < (l0.length : Int) := of_decide_eq_true nx_
    obtain ⟨ad169, e169, hx169_0, hx169_1⟩ := at_T36 HR0.out x3_1 p169 q169
    have hw169_1 := hx169_1
    have hw169_0 := hx169_0
    obtain rfl : ad164 = ad169 := (by injection e169)
    replace hx169_0 := hb_ HB.out hx169_0
    replace hx169_1 := hb_ HB.out hx169_1
    replace p169 := eq_true p169
    replace q169 := eq_true q169
    have p170 : 0 ≤ ((ji9) : Int) := of_decide_eq_true nx_
    have q170 : (ji9) < (l0.length : Int) := of_decide_eq_true nx_
    obtain ⟨ad170, e170, hx170_0, hx170_1⟩ := at_T36 HR0.out (ji9) p170 q170
    have hw170_1 := hx170_1
    have hw170_0 := hx170_0
    obtain rfl : ad164 = ad170 := (by injection e170)
    replace hx170_0 := hb_ HB.out hx170_0
    replace hx170_1 := hb_ HB.out hx170_1
    replace p170 := eq_true p170
    replace q170 := eq_true q170
    have p171 : 0 ≤ (x3_1 : Int) := of_decide_eq_true nx_
    have q171 : x3_1 < (l0.length : Int) := of_decide_eq_true nx_
    obtain ⟨ad171, e171, hx171_0, hx171_1⟩ := at_T36 HR0.out x3_1 p171 q171
    have hw171_1 := hx171_1
    have hw171_0 := hx171_0
    obtain rfl : ad164 = ad171 := (by injection e171)
    replace hx171_0 := hb_ HB.out hx171_0
    replace hx171_1 := hb_ HB.out hx171_1
    replace p171 := eq_true p171
    replace q171 := eq_true q171
    have p172 : 0 ≤ ((ji9) : Int) := of_decide_eq_true nx_
    have q172 : (ji9) < (l0.length : Int) := of_decide_eq_true nx_
    obtain ⟨ad172, e172, hx172_0, hx172_1⟩ := at_T36 HR0.out (ji9) p172 q172
    have hw172_1 := hx172_1
    have hw172_0 := hx172_0
    obtain rfl : ad164 = ad172 := (by injection e172)
    replace hx172_0 := hb_ HB.out hx172_0
    replace hx172_1 := hb_ HB.out hx172_1
    replace p172 := eq_true p172
    replace q172 := eq_true q172
    refine start_ (n := 53) (S := fun w' => w'.cell? (ad164.add ((x3_1).toNat * 2)) = some (.int .i64 ((rd_T36 l0 x3_1).f0)) ∧ w'.cell? ⟨(ad164.add ((x3_1).toNat * 2)).block, (ad164.add ((x3_1).toNat * 2)).off + 1, none⟩ = some (.int .i64 ((rd_T36 l0 x3_1).f1)) ∧ w'.cell? (ad164.add ((x3_1).toNat * 2)) = some (.int .i64 ((rd_T36 l0 x3_1).f0)) ∧ w'.cell? ⟨(ad164.add ((x3_1).toNat * 2)).block, (ad164.add ((x3_1).toNat * 2)).off + 1, none⟩ = some (.int .i64 ((rd_T36 l0 x3_1).f1)) ∧ w'.cell? (ad164.add ((x3_1).toNat * 2)) = some (.int .i64 ((rd_T36 l0 x3_1).f0)) ∧ w'.cell? ⟨(ad164.add ((x3_1).toNat * 2)).block, (ad164.add ((x3_1).toNat * 2)).off + 1, none⟩ = some (.int .i64 ((rd_T36 l0 x3_1).f1)) ∧ w'.cell? (ad164.add ((x3_1).toNat * 2)) = some (.int .i64 ((rd_T36 l0 x3_1).f0)) ∧ w'.cell? ⟨(ad164.add ((x3_1).toNat * 2)).block, (ad164.add ((x3_1).toNat * 2)).off + 1, none⟩ = some (.int .i64 ((rd_T36 l0 x3_1).f1)) ∧ w'.cell? (ad164.add (((ji9)).toNat * 2)) = some (.int .i64 ((rd_T36 l0 (ji9)).f0)) ∧ w'.cell? ⟨(ad164.add (((ji9)).toNat * 2)).block, (ad164.add (((ji9)).toNat * 2)).off + 1, none⟩ = some (.int .i64 ((rd_T36 l0 (ji9)).f1)) ∧ w'.cell? (ad164.add ((x3_1).toNat * 2)) = some (.int .i64 ((rd_T36 l0 x3_1).f0)) ∧ w'.cell? ⟨(ad164.add ((x3_1).toNat * 2)).block, (ad164.add ((x3_1).toNat * 2)).off + 1, none⟩ = some (.int .i64 ((rd_T36 l0 x3_1).f1)) ∧ w'.cell? (ad164.add (((ji9)).toNat * 2)) = some (.int .i64 ((rd_T36 l0 (ji9)).f0)) ∧ w'.cell? ⟨(ad164.add (((ji9)).toNat * 2)).block, (ad164.add (((ji9)).toNat * 2)).off + 1, none⟩ = some (.int .i64 ((rd_T36 l0 (ji9)).f1))) (ds := []) z35_0 (by kernel_rfl) rfl rfl ⟨((HB.out.cell (World.block_lt_of_cell? w _ hw164_0)).trans hw164_0), ((HB.out.cell (World.block_lt_of_cell? w _ hw164_1)).trans hw164_1), ((HB.out.cell (World.block_lt_of_cell? w _ hw166_0)).trans hw166_0), ((HB.out.cell (World.block_lt_of_cell? w _ hw166_1)).trans hw166_1), ((HB.out.cell (World.block_lt_of_cell? w _ hw167_0)).trans hw167_0), ((HB.out.cell (World.block_lt_of_cell? w _ hw167_1)).trans hw167_1), ((HB.out.cell (World.block_lt_of_cell? w _ hw169_0)).trans hw169_0), ((HB.out.cell (World.block_lt_of_cell? w _ hw169_1)).trans hw169_1), ((HB.out.cell (World.block_lt_of_cell? w _ hw170_0)).trans hw170_0), ((HB.out.cell (World.block_lt_of_cell? w _ hw170_1)).trans hw170_1), ((HB.out.cell (World.block_lt_of_cell? w _ hw171_0)).trans hw171_0), ((HB.out.cell (World.block_lt_of_cell? w _ hw171_1)).trans hw171_1), ((HB.out.cell (World.block_lt_of_cell? w _ hw172_0)).trans hw172_0), ((HB.out.cell (World.block_lt_of_cell? w _ hw172_1)).trans hw172_1)⟩ (fun hHeld => ?_); refine with_tabW spec_l5Ok.tab4 spec_l5Ok.bits4 (fun HT_ HW_ => ?_)
    generalize wr.drew = w15 at HB hx164_0 hx164_1 hx166_0 hx166_1 hx167_0 hx167_1 hx169_0 hx169_1 hx170_0 hx170_1 hx171_0 hx171_1 hx172_0 hx172_1 hHeld ⊢
    refine pu_ 0 10 z35_1 HT_.out ?_
    refine pu_ 1 11 z35_2 HT_.out ?_
    refine pu_ 2 12 z35_3 HT_.out ?_
    refine pu_ 3 13 z35_4 HT_.out ?_
    refine tk_ 4 14 z35_5 HT_.out HW_.out hHeld ?_
    refine one_ (i := 5) (N := some 15) z35_6 rfl rfl (one_of HT_.out (by kernel_rfl)) (by decide) (fun K hK => ?_)
    refine go_ Try.func30 #[.int .i64 ((rd_T36 l0 x3_1).f0), .int .i64 0, .int .i64 199] ?_
    with_reducible refine (spec_l1In.calls ((rd_T36 l0 x3_1).f0) 0 199 true _ A4.out).mono ?_
    rintro e w' ⟨rfl, ⟨nd, rfl⟩⟩
    refine ⟨_, rfl, ?_⟩
    refine hK.out _ _ ⟨((HB.out.cell (World.block_lt_of_cell? w _ hw164_0)).trans hw164_0), ((HB.out.cell (World.block_lt_of_cell? w _ hw164_1)).trans hw164_1), ((HB.out.cell (World.block_lt_of_cell? w _ hw166_0)).trans hw166_0), ((HB.out.cell (World.block_lt_of_cell? w _ hw166_1)).trans hw166_1), ((HB.out.cell (World.block_lt_of_cell? w _ hw167_0)).trans hw167_0), ((HB.out.cell (World.block_lt_of_cell? w _ hw167_1)).trans hw167_1), ((HB.out.cell (World.block_lt_of_cell? w _ hw169_0)).trans hw169_0), ((HB.out.cell (World.block_lt_of_cell? w _ hw169_1)).trans hw169_1), ((HB.out.cell (World.block_lt_of_cell? w _ hw170_0)).trans hw170_0), ((HB.out.cell (World.block_lt_of_cell? w _ hw170_1)).trans hw170_1), ((HB.out.cell (World.block_lt_of_cell? w _ hw171_0)).trans hw171_0), ((HB.out.cell (World.block_lt_of_cell? w _ hw171_1)).trans hw171_1), ((HB.out.cell (World.block_lt_of_cell? w _ hw172_0)).trans hw172_0), ((HB.out.cell (World.block_lt_of_cell? w _ hw172_1)).trans hw172_1)⟩ (fun hHeld => ?_)
    clear hK K
    refine nm1_ (some 15) ?_
    refine pu_ 6 16 z35_7 HT_.out ?_
    refine pu_ 7 17 z35_8 HT_.out ?_
    refine pu_ 8 18 z35_9 HT_.out ?_
    refine pu_ 9 19 z35_10 HT_.out ?_
    refine pu_ 10 20 z35_11 HT_.out ?_
    refine pu_ 11 21 z35_12 HT_.out ?_
    refine pu_ 13 23 z35_13 HT_.out ?_
    refine pu_ 14 24 z35_14 HT_.out ?_
    refine pu_ 15 25 z35_15 HT_.out ?_
    refine pu_ 16 26 z35_16 HT_.out ?_
    refine tk_ 12 22 z35_17 HT_.out HW_.out hHeld ?_
    refine tk_ 17 27 z35_18 HT_.out HW_.out hHeld ?_
    refine one_ (i := 18) (N := some 28) z35_19 rfl rfl (one_of HT_.out (by kernel_rfl)) (by decide) (fun K hK => ?_)
    refine go_ Try.func30 #[.int .i64 ((rd_T36 l0 x3_1).f1), .int .i64 ((rd_T36 l0 x3_1).f0), .int .i64 199] ?_
    with_reducible refine (spec_l1In.calls ((rd_T36 l0 x3_1).f1) ((rd_T36 l0 x3_1).f0) 199 true _ A6.out).mono ?_
    rintro e w' ⟨rfl, ⟨nd, rfl⟩⟩
    refine ⟨_, rfl, ?_⟩
    refine hK.out _ _ ⟨((HB.out.cell (World.block_lt_of_cell? w _ hw164_0)).trans hw164_0), ((HB.out.cell (World.block_lt_of_cell? w _ hw164_1)).trans hw164_1), ((HB.out.cell (World.block_lt_of_cell? w _ hw166_0)).trans hw166_0), ((HB.out.cell (World.block_lt_of_cell? w _ hw166_1)).trans hw166_1), ((HB.out.cell (World.block_lt_of_cell? w _ hw167_0)).trans hw167_0), ((HB.out.cell (World.block_lt_of_cell? w _ hw167_1)).trans hw167_1), ((HB.out.cell (World.block_lt_of_cell? w _ hw169_0)).trans hw169_0), ((HB.out.cell (World.block_lt_of_cell? w _ hw169_1)).trans hw169_1), ((HB.out.cell (World.block_lt_of_cell? w _ hw170_0)).trans hw170_0), ((HB.out.cell (World.block_lt_of_cell? w _ hw170_1)).trans hw170_1), ((HB.out.cell (World.block_lt_of_cell? w _ hw171_0)).trans hw171_0), ((HB.out.cell (World.block_lt_of_cell? w _ hw171_1)).trans hw171_1), ((HB.out.cell (World.block_lt_of_cell? w _ hw172_0)).trans hw172_0), ((HB.out.cell (World.block_lt_of_cell? w _ hw172_1)).trans hw172_1)⟩ (fun hHeld => ?_)
    clear hK K
    refine nm1_ (some 28) ?_
    refine pu_ 19 29 z35_20 HT_.out ?_
    refine pu_ 20 30 z35_21 HT_.out ?_
    refine pu_ 21 31 z35_22 HT_.out ?_
    refine pu_ 22 32 z35_23 HT_.out ?_
    refine pu_ 23 33 z35_24 HT_.out ?_
    refine pu_ 24 34 z35_25 HT_.out ?_
    refine pu_ 25 35 z35_26 HT_.out ?_
    refine pu_ 26 36 z35_27 HT_.out ?_
    refine pu_ 27 37 z35_28 HT_.out ?_
    refine pu_ 28 38 z35_29 HT_.out ?_
    refine pu_ 30 40 z35_30 HT_.out ?_
    refine pu_ 31 41 z35_31 HT_.out ?_
    refine pu_ 32 42 z35_32 HT_.out ?_
    refine pu_ 33 43 z35_33 HT_.out ?_
    refine pu_ 34 44 z35_34 HT_.out ?_
    refine tk_ 29 39 z35_35 HT_.out HW_.out hHeld ?_
    refine tk_ 35 45 z35_36 HT_.out HW_.out hHeld ?_
    refine pu_ 36 46 z35_37 HT_.out ?_
    refine pu_ 37 47 z35_38 HT_.out ?_
    refine pu_ 38 48 z35_39 HT_.out ?_
    refine pu_ 39 49 z35_40 HT_.out ?_
    refine pu_ 40 50 z35_41 HT_.out ?_
    refine pu_ 41 51 z35_42 HT_.out ?_
    refine pu_ 43 53 z35_54 HT_.out ?_
    refine pu_ 44 54 z35_55 HT_.out ?_
    refine pu_ 45 55 z35_56 HT_.out ?_
    refine pu_ 46 56 z35_57 HT_.out ?_
    refine pu_ 47 57 z35_58 HT_.out ?_
    refine tk_ 42 52 z35_48 HT_.out HW_.out hHeld ?_
    refine tk_ 48 58 z35_49 HT_.out HW_.out hHeld ?_
    refine pu_ 49 59 z35_50 HT_.out ?_
    refine pu_ 50 60 z35_51 HT_.out ?_
    refine pu_ 51 61 z35_52 HT_.out ?_
    refine pu_ 52 62 z35_53 HT_.out ?_
    refine done_ (done_of HT_.out (by kernel_rfl)) ?_
    try go_wp2
    go_ret
    exact ⟨by first | rfl | (simp [errW_none, errW_some] <;> rfl) | (simp only [← hji9]; first | rfl | (simp [errW_none, errW_some] <;> rfl)) | (simp [*, errW_none, errW_some] <;> rfl), ne_ HB.out⟩
end Go.Proofs.Ytfpfaaibgaejjaa.Print
