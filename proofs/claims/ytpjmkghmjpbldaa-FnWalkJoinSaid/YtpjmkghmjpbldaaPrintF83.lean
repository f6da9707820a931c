-- Made by this session's own program (wip/patch_print.py, over the kit's print). Lean checks it.
import Derived.Test.YtpjmkghmjpbldaaPrint0
import Derived.Test.YtpjmkghmjpbldaaPrintB
namespace Go.Proofs.Ytpjmkghmjpbldaa.Print
open Go.RowKit Go.Proofs.YtpjmkghmjpbldaaW.PrintWords Go.Proofs.YtpjmkghmjpbldaaW.PrintLast Go.Proofs.YtpjmkghmjpbldaaW.PrintMore Go.Proofs.YtpjmkghmjpbldaaX
attribute [local go_sem] max2_int min2_int max_two min_two max_three min_three max_four min_four   -- for this text's walks alone
set_option linter.unusedVariables false
set_option linter.unusedSimpArgs false

abbrev z83_0 := bm_ 36 0
abbrev z83_1 := bm_ 36 1
abbrev z83_2 := bm_ 36 3
abbrev z83_3 := bm_ 36 7
abbrev z83_4 := bm_ 36 23
abbrev z83_5 := bm_ 36 31
abbrev z83_6 := bm_ 36 63
abbrev z83_7 := bm_ 36 127
abbrev z83_8 := bm_ 36 255
abbrev z83_9 := bm_ 36 511
abbrev z83_10 := bm_ 36 1023
abbrev z83_11 := bm_ 36 2047
abbrev z83_12 := bm_ 36 4095
abbrev z83_13 := bm_ 36 8191
abbrev z83_14 := bm_ 36 16383
abbrev z83_15 := bm_ 36 32767
abbrev z83_16 := bm_ 36 98303
abbrev z83_17 := bm_ 36 229375
abbrev z83_18 := bm_ 36 491519
abbrev z83_19 := bm_ 36 8880127
abbrev z83_20 := bm_ 36 42434559
abbrev z83_21 := bm_ 36 109543423
abbrev z83_22 := bm_ 36 243761151
abbrev z83_23 := bm_ 36 512196607
abbrev z83_24 := bm_ 36 512229375
abbrev z83_25 := bm_ 36 512753663
abbrev z83_26 := bm_ 36 513802239
abbrev z83_27 := bm_ 36 515899391
abbrev z83_28 := bm_ 36 520093695
abbrev z83_29 := bm_ 36 536870911
abbrev z83_30 := bm_ 36 1073741823
abbrev z83_31 := bm_ 36 2147483647
abbrev z83_32 := bm_ 36 4294967295
abbrev z83_33 := bm_ 36 8589934591
abbrev z83_34 := bm_ 36 17179869183
abbrev z83_35 := bm_ 36 34359738367
abbrev z83_36 := bm_ 36 68719476735
abbrev z83_37 := bm_ 36 65535
abbrev z83_38 := bm_ 36 131071
abbrev z83_39 := bm_ 36 262143
abbrev z83_40 := bm_ 36 524287
abbrev z83_41 := bm_ 36 1048575
abbrev z83_42 := bm_ 36 2097151
abbrev z83_43 := bm_ 36 4194303
abbrev z83_44 := bm_ 36 8388607
abbrev z83_45 := bm_ 36 16777215
abbrev z83_46 := bm_ 36 33554431
abbrev z83_47 := bm_ 36 67108863
abbrev z83_48 := bm_ 36 134217727
abbrev z83_49 := bm_ 36 268435455
/-! ### spec_l2Ok: function 83 -/
def spec_l2Ok.l0 : Nat → List Int → Int → Int → List (S37) → Option (Bool)
  | 0, _, _, _, _ => none
  | k + 1, x1, x5, x636000, x636001 => if x5 < (x1.length : Int) then (if 0 ≤ x5 then ((spec_l1In.f (rd x1 x5) 0 (wrap64 ((x636001.length : Int) - 1))).bind fun t637 => (if t637 = true then (if x5 > 0 then (if 0 ≤ (rd x1 x5) then (if (rd x1 x5) < (x636001.length : Int) then (if 0 ≤ (wrap64 (x5 - 1)) then (if (wrap64 (x5 - 1)) < (x1.length : Int) then (if 0 ≤ (rd x1 (wrap64 (x5 - 1))) then (if (rd x1 (wrap64 (x5 - 1))) < (x636001.length : Int) then (if ((rd_T37 x636001 (rd x1 x5)).f0) = ((rd_T37 x636001 (rd x1 (wrap64 (x5 - 1)))).f1) then (spec_l2Ok.l0 k x1 (wrap64 (x5 + 1)) x636000 x636001) else (some false)) else (none)) else (none)) else (none)) else (none)) else (none)) else (none)) else (spec_l2Ok.l0 k x1 (wrap64 (x5 + 1)) x636000 x636001)) else (some false))) else (none)) else (some (decide ((x1.length : Int) ≤ 20)))
def spec_l2Ok.f (k : Nat) (a0_0 : Int) (l0_1 : List (S37)) (l1 : List Int) : Option (Bool) := spec_l2Ok.l0 k l1 0 a0_0 l0_1
theorem spec_l2Ok.mono_l : ∀ k, (∀ y0 y1 y2 y3, LeO (spec_l2Ok.l0 k y0 y1 y2 y3) (spec_l2Ok.l0 (k + 1) y0 y1 y2 y3))
  | 0 => fun _ _ _ _ r h => by simp [spec_l2Ok.l0] at h
  | k + 1 => by
    have ih0 := spec_l2Ok.mono_l k
    · intro y0 y1 y2 y3
      unfold spec_l2Ok.l0
      repeat' first | (with_reducible first | exact ih0 _ _ _ _ | exact LeO.refl _ | exact LeO.none _ | refine LeO.ite ?_ ?_ | refine LeO.bind ?_ (fun _ => ?_)) | exact ih0 _ _ _ _ | exact LeO.none _ | refine LeO.ite ?_ ?_ | refine LeO.bind ?_ (fun _ => ?_)
theorem spec_l2Ok.mono : ∀ a0 a1 a2 k, LeO (spec_l2Ok.f k a0 a1 a2) (spec_l2Ok.f (k + 1) a0 a1 a2) := by
  intro a0 a1 a2 k
  have ih0 := spec_l2Ok.mono_l k
  unfold spec_l2Ok.f
  repeat' first | (with_reducible first | exact ih0 _ _ _ _ | exact LeO.refl _ | exact LeO.none _ | refine LeO.ite ?_ ?_ | refine LeO.bind ?_ (fun _ => ?_)) | exact ih0 _ _ _ _ | exact LeO.none _ | refine LeO.ite ?_ ?_ | refine LeO.bind ?_ (fun _ => ?_)
def spec_l2Ok.T4 : Bool × List (List Nat × List Nat) := (true, [([], []), ([], []), ([0, 1], [0, 1]), ([2], [2]), ([], []), ([4], [4]), ([5], [5]), ([6], [6]), ([3, 7], [3, 7]), ([8], [8]), ([9, 8], [9]), ([10], [10]), ([11, 10], [10, 11]), ([12, 10, 10], [10, 12]), ([13], [13]), ([14, 13], [13, 14]), ([13], [13]), ([13], [13]), ([16, 17, 13], [13, 16, 17]), ([18, 13], [13, 18]), ([15, 19, 13], [13, 15, 19]), ([20, 13], [13, 20]), ([21, 13], [13, 21]), ([13], [13]), ([23, 13], [13, 23]), ([13], [13]), ([13], [13]), ([26, 13], [13, 26]), ([25, 27, 13], [13, 25, 27]), ([28, 13], [13, 28]), ([24, 29, 13], [13, 24, 29]), ([30, 13], [13, 30]), ([31, 13], [13, 31]), ([22, 32, 13], [13, 22, 32]), ([13, 33, 10], [10, 13, 33]), ([10, 34], [10, 34])])
def spec_l2Ok.B4 : List Nat := [0, 0, 3, 7, 0, 16, 48, 112, 255, 511, 1023, 2047, 4095, 8191, 16383, 32767, 16383, 16383, 212991, 475135, 1048575, 2097151, 4194303, 16383, 8404991, 16383, 16383, 67125247, 234897407, 503332863, 1065369599, 2139111423, 4286595071, 8589934591, 17179869183, 34359738367]
theorem spec_l2Ok.tab4 : rtab .any (opsOf Try.f83 4) = spec_l2Ok.T4 := by kernel_rfl
theorem spec_l2Ok.bits4 : waitsOk spec_l2Ok.T4.2 spec_l2Ok.B4 = true := by kernel_rfl
set_option maxHeartbeats 200000000 in
set_option maxRecDepth 100000 in
theorem spec_l2Ok.calls (k : Nat) (a0_0 : Int) (A0_1 : Option Addr) (c0_1 : Nat) (l0_1 : List (S37)) (A1 : Option Addr) (c1 : Nat) (l1 : List Int) (r : Bool) (w : World) (hr0_1 : Kd.C k37 w A0_1 l0_1.length l0_1) (hc0_1 : l0_1.length ≤ c0_1) (hr1 : Kd.C (Kd.int .i64) w A1 l1.length l1) (hc1 : l1.length ≤ c1) (h : spec_l2Ok.f k a0_0 l0_1 l1 = some r) :
    Calls Try.prog 83 #[.agg #[.int .i64 a0_0, .slice A0_1 l0_1.length c0_1], .slice A1 l1.length c1] w fun e w' => e = .returned (.bool r) ∧ Below w.heap.size w w' := by
  have hu29 := Try.underlying29
  have HR0_1 := Aside0.mk hr0_1
  have HC0_1 := Aside0.mk hc0_1
  clear hr0_1 hc0_1
  have HR1 := Aside0.mk hr1
  have HC1 := Aside0.mk hc1
  clear hr1 hc1
  have HB := Aside0.mk (Below.refl w.heap.size w)
  have H : (spec_l2Ok.l0 k l1 0 a0_0 l0_1) = some r := h
  clear h
  have H' := Aside0.mk H
  clear H
  go_enter Try.func83, Try.ntmps83
  go_wp2_with (first | ((with_reducible refine gate_dst (N := 2) rfl ?_); refine bx_ 2 #[.int .i64 a0_0, .slice A0_1 l0_1.length c0_1] 29 ?_; intro gb635 hg w3 hbox hb; have BK635 := Aside0.mk (hbox); have GW635 := Aside0.mk (zs_ hg (ne_ HB.out)); have GE635 := Aside0.mk (zs_ hg (ne_ HB.out)); replace HB := kB_ HB hb; clear hb hbox hg))
  go_loopg [5] k (fun kq v5 w' => ∃ (x5_1 : Int), v5 = .int .i64 x5_1 ∧ Aside0 (spec_l2Ok.l0 kq l1 x5_1 a0_0 l0_1 = some r) ∧ Aside0 (kq ≤ k) ∧ Aside0 (w'.heap[gb635]? = some (.cells #[.int .i64 a0_0, (.slice A0_1 l0_1.length c0_1)] 29 (0, 0))) ∧ Aside0 (Below w.heap.size w w'))
  case atStart => exact ⟨(0), ns_, H', ⟨Nat.le_refl _⟩, ⟨nb_ BK635.out⟩, ⟨ne_ HB.out⟩⟩
  case round =>
   clear H'
   try clear c1
   obtain ⟨x5_1, rfl, HA, HK1, BK635, HB⟩ := hrel
   cases gk with
   | zero => exact absurd HA.out (by simp [spec_l2Ok.l0])
   | succ k1 =>
    have H := HA.out
    clear HA
    simp only [spec_l2Ok.l0] at H
    by_cases c4 : x5_1 < (l1.length : Int)
    rotate_left
    ·rw [if_neg c4] at H
     have c4b0 : decide (x5_1 < (l1.length : Int)) = false := decide_eq_false c4
     clear c4
     obtain rfl := Option.some.inj H
     go_wp2
     go_ret
     exact ⟨nw_, ne_ HB.out⟩

    rw [if_pos c4] at H
    have c4b0 : decide (x5_1 < (l1.length : Int)) = true := decide_eq_true c4
    clear c4
    by_cases c5 : 0 ≤ x5_1
    rotate_left
    ·rw [if_neg c5] at H
     exact absurd H (by simp)
    rw [if_pos c5] at H
    have c5b0 : decide (0 ≤ x5_1) = true := decide_eq_true c5
    clear c5
    replace H := Option.bind_eq_some_iff.mp H
    obtain ⟨t637, A60, H⟩ := H
    try dsimp only at H
    have A6 := Aside0.mk A60
    clear A60
    by_cases c7 : t637 = true
    rotate_left
    ·replace c7 := Bool.eq_false_iff.mpr c7
     subst c7
     have H1 : (some false) = some r := by rw [if_neg (show ¬ (false = true) by decide)] at H; exact H
     clear H
     have H := H1
     clear H1
     obtain rfl := Option.some.inj H
     try go_wp2
     replace BK635 := Aside0.mk (blk_drew BK635.out)
     replace HB := Aside0.mk (below_drew1 HB.out)
     have p636 : 0 ≤ (x5_1 : Int) := of_decide_eq_true nx_
     have q636 : x5_1 < (l1.length : Int) := of_decide_eq_true nx_
     obtain ⟨ad636, e636, hx636_0⟩ := Kd.at_int HR1.out x5_1 p636 q636
     have hw636_0 := hx636_0
     cases e636
     replace hx636_0 := hb_ HB.out hx636_0
     replace p636 := eq_true p636
     replace q636 := eq_true q636
     refine start_ (n := 36) (S := fun w' => w'.cell? ⟨gb635, 0, none⟩ = some (.int .i64 a0_0) ∧ w'.cell? ⟨gb635, 1, none⟩ = some (.slice A0_1 l0_1.length c0_1) ∧ w'.cell? (ad636.add (x5_1).toNat) = some (.int .i64 (rd l1 x5_1))) (ds := []) z83_0 (by kernel_rfl) rfl rfl ⟨ct_ BK635.out 0, ct_ BK635.out 1, ((HB.out.cell (World.block_lt_of_cell? w _ hw636_0)).trans hw636_0)⟩ (fun hHeld => ?_); refine with_tabW spec_l2Ok.tab4 spec_l2Ok.bits4 (fun HT_ HW_ => ?_)
     generalize wr.drew = w20 at BK635 HB hx636_0 hHeld ⊢
     refine pu_ 0 12 z83_1 HT_.out ?_
     refine pu_ 1 13 z83_2 HT_.out ?_
     refine pu_ 2 14 z83_3 HT_.out ?_
     refine pu_ 4 16 z83_4 HT_.out ?_
     refine tk_ 3 15 z83_5 HT_.out HW_.out hHeld ?_
     refine tk_ 5 17 z83_6 HT_.out HW_.out hHeld ?_
     refine pu_ 6 18 z83_7 HT_.out ?_
     refine pu_ 7 19 z83_8 HT_.out ?_
     refine one_ (i := 8) (N := some 20) z83_9 rfl rfl (one_of HT_.out (by kernel_rfl)) (by decide) (fun K hK => ?_)
     refine go_ Try.func92 #[.int .i64 (rd l1 x5_1), .int .i64 0, .int .i64 (wrap64 ((l0_1.length : Int) - 1))] ?_
     with_reducible refine (spec_l1In.calls (rd l1 x5_1) 0 (wrap64 ((l0_1.length : Int) - 1)) false _ A6.out).mono ?_
     rintro e w' ⟨rfl, ⟨nd, rfl⟩⟩
     refine ⟨_, rfl, ?_⟩
     refine hK.out _ _ ⟨ct_ BK635.out 0, ct_ BK635.out 1, ((HB.out.cell (World.block_lt_of_cell? w _ hw636_0)).trans hw636_0)⟩ (fun hHeld => ?_)
     clear hK K
     refine nm1_ (some 20) ?_
     refine pu_ 9 21 z83_10 HT_.out ?_
     refine pu_ 10 22 z83_11 HT_.out ?_
     refine un_ 11 23 z83_12 HT_.out ?_
     refine un_ 12 24 z83_13 HT_.out ?_
     refine un_ 13 25 z83_14 HT_.out ?_
     refine un_ 14 26 z83_15 HT_.out ?_
     refine un_ 15 27 z83_37 HT_.out ?_
     refine un_ 16 28 z83_38 HT_.out ?_
     refine un_ 17 29 z83_39 HT_.out ?_
     refine un_ 18 30 z83_40 HT_.out ?_
     refine un_ 19 31 z83_41 HT_.out ?_
     refine un_ 20 32 z83_42 HT_.out ?_
     refine un_ 21 33 z83_43 HT_.out ?_
     refine un_ 22 34 z83_44 HT_.out ?_
     refine un_ 23 35 z83_45 HT_.out ?_
     refine un_ 24 36 z83_46 HT_.out ?_
     refine un_ 25 37 z83_47 HT_.out ?_
     refine un_ 26 38 z83_48 HT_.out ?_
     refine un_ 27 39 z83_49 HT_.out ?_
     refine un_ 28 40 z83_29 HT_.out ?_
     refine un_ 29 41 z83_30 HT_.out ?_
     refine un_ 30 42 z83_31 HT_.out ?_
     refine un_ 31 43 z83_32 HT_.out ?_
     refine un_ 32 44 z83_33 HT_.out ?_
     refine un_ 33 45 z83_34 HT_.out ?_
     refine un_ 34 46 z83_35 HT_.out ?_
     refine pu_ 35 47 z83_36 HT_.out ?_
     refine done_ (done_of HT_.out (by kernel_rfl)) ?_
     try go_wp2
     go_ret
     exact ⟨nw_, ne_ HB.out⟩
    subst c7
    rw [if_pos rfl] at H
    by_cases c8 : x5_1 > 0
    rotate_left
    ·rw [if_neg c8] at H
     have c8b0 : decide (0 < x5_1) = false := decide_eq_false c8
     clear c8
     have H' := Aside0.mk H
     clear H
     try go_wp2
     replace BK635 := Aside0.mk (blk_drew BK635.out)
     replace HB := Aside0.mk (below_drew1 HB.out)
     have p636 : 0 ≤ (x5_1 : Int) := of_decide_eq_true nx_
     have q636 : x5_1 < (l1.length : Int) := of_decide_eq_true nx_
     obtain ⟨ad636, e636, hx636_0⟩ := Kd.at_int HR1.out x5_1 p636 q636
     have hw636_0 := hx636_0
     cases e636
     replace hx636_0 := hb_ HB.out hx636_0
     replace p636 := eq_true p636
     replace q636 := eq_true q636
     refine start_ (n := 36) (S := fun w' => w'.cell? ⟨gb635, 0, none⟩ = some (.int .i64 a0_0) ∧ w'.cell? ⟨gb635, 1, none⟩ = some (.slice A0_1 l0_1.length c0_1) ∧ w'.cell? (ad636.add (x5_1).toNat) = some (.int .i64 (rd l1 x5_1))) (ds := []) z83_0 (by kernel_rfl) rfl rfl ⟨ct_ BK635.out 0, ct_ BK635.out 1, ((HB.out.cell (World.block_lt_of_cell? w _ hw636_0)).trans hw636_0)⟩ (fun hHeld => ?_); refine with_tabW spec_l2Ok.tab4 spec_l2Ok.bits4 (fun HT_ HW_ => ?_)
     generalize wr.drew = w19 at BK635 HB hx636_0 hHeld ⊢
     refine pu_ 0 12 z83_1 HT_.out ?_
     refine pu_ 1 13 z83_2 HT_.out ?_
     refine pu_ 2 14 z83_3 HT_.out ?_
     refine pu_ 4 16 z83_4 HT_.out ?_
     refine tk_ 3 15 z83_5 HT_.out HW_.out hHeld ?_
     refine tk_ 5 17 z83_6 HT_.out HW_.out hHeld ?_
     refine pu_ 6 18 z83_7 HT_.out ?_
     refine pu_ 7 19 z83_8 HT_.out ?_
     refine one_ (i := 8) (N := some 20) z83_9 rfl rfl (one_of HT_.out (by kernel_rfl)) (by decide) (fun K hK => ?_)
     refine go_ Try.func92 #[.int .i64 (rd l1 x5_1), .int .i64 0, .int .i64 (wrap64 ((l0_1.length : Int) - 1))] ?_
     with_reducible refine (spec_l1In.calls (rd l1 x5_1) 0 (wrap64 ((l0_1.length : Int) - 1)) true _ A6.out).mono ?_
     rintro e w' ⟨rfl, ⟨nd, rfl⟩⟩
     refine ⟨_, rfl, ?_⟩
     refine hK.out _ _ ⟨ct_ BK635.out 0, ct_ BK635.out 1, ((HB.out.cell (World.block_lt_of_cell? w _ hw636_0)).trans hw636_0)⟩ (fun hHeld => ?_)
     clear hK K
     refine nm1_ (some 20) ?_
     refine pu_ 9 21 z83_10 HT_.out ?_
     refine pu_ 10 22 z83_11 HT_.out ?_
     refine pu_ 11 23 z83_12 HT_.out ?_
     refine pu_ 12 24 z83_13 HT_.out ?_
     refine pu_ 13 25 z83_14 HT_.out ?_
     refine un_ 14 26 z83_15 HT_.out ?_
     refine un_ 15 27 z83_37 HT_.out ?_
     refine un_ 16 28 z83_38 HT_.out ?_
     refine un_ 17 29 z83_39 HT_.out ?_
     refine un_ 18 30 z83_40 HT_.out ?_
     refine un_ 19 31 z83_41 HT_.out ?_
     refine un_ 20 32 z83_42 HT_.out ?_
     refine un_ 21 33 z83_43 HT_.out ?_
     refine un_ 22 34 z83_44 HT_.out ?_
     refine un_ 23 35 z83_45 HT_.out ?_
     refine un_ 24 36 z83_46 HT_.out ?_
     refine un_ 25 37 z83_47 HT_.out ?_
     refine un_ 26 38 z83_48 HT_.out ?_
     refine un_ 27 39 z83_49 HT_.out ?_
     refine un_ 28 40 z83_29 HT_.out ?_
     refine un_ 29 41 z83_30 HT_.out ?_
     refine un_ 30 42 z83_31 HT_.out ?_
     refine un_ 31 43 z83_32 HT_.out ?_
     refine un_ 32 44 z83_33 HT_.out ?_
     refine un_ 33 45 z83_34 HT_.out ?_
     refine pu_ 34 46 z83_35 HT_.out ?_
     refine pu_ 35 47 z83_36 HT_.out ?_
     refine done_ (done_of HT_.out (by kernel_rfl)) ?_
     try go_wp2
     go_roundg k1
     case measure => have := HK1.out; omega
     case rel => exact ⟨(wrap64 (x5_1 + 1)), ns_, H', ⟨by have := HK1.out; omega⟩, ⟨nb_ BK635.out⟩, ⟨ne_ HB.out⟩⟩
    rw [if_pos c8] at H
    have c8b0 : decide (0 < x5_1) = true := decide_eq_true c8
    clear c8
    by_cases c9 : 0 ≤ (rd l1 x5_1)
    rotate_left
    ·rw [if_neg c9] at H
     exact absurd H (by simp)
    rw [if_pos c9] at H
    have c9b0 : decide (0 ≤ (rd l1 x5_1)) = true := decide_eq_true c9
    clear c9
    by_cases c10 : (rd l1 x5_1) < (l0_1.length : Int)
    rotate_left
    ·rw [if_neg c10] at H
     exact absurd H (by simp)
    rw [if_pos c10] at H
    have c10b0 : decide ((rd l1 x5_1) < (l0_1.length : Int)) = true := decide_eq_true c10
    clear c10
    obtain ⟨ji11, hji11⟩ : ∃ j_ : Int, (wrap64 (x5_1 - 1)) = j_ := ⟨_, rfl⟩
    replace H : (if 0 ≤ (ji11) then (if (ji11) < (l1.length : Int) then (if 0 ≤ (rd l1 (ji11)) then (if (rd l1 (ji11)) < (l0_1.length : Int) then (if ((rd_T37 l0_1 (rd l1 x5_1)).f0) = ((rd_T37 l0_1 (rd l1 (ji11))).f1) then (spec_l2Ok.l0 k1 l1 (wrap64 (x5_1 + 1)) a0_0 l0_1) else (some false)) else (none)) else (none)) else (none)) else (none)) = some r := by first | (rw [hji11] at H; exact H) | (simp only [hji11] at H ⊢; exact H)
    (try rw [hji11] at A6)
    have hji11w : (IntKind.i64.wrap (x5_1 - 1)) = ji11 := (i64_w _).trans hji11
    by_cases c12 : 0 ≤ (ji11)
    rotate_left
    ·rw [if_neg c12] at H
     exact absurd H (by simp)
    rw [if_pos c12] at H
    have c12b0 : decide (0 ≤ (ji11)) = true := decide_eq_true c12
    clear c12
    by_cases c13 : (ji11) < (l1.length : Int)
    rotate_left
    ·rw [if_neg c13] at H
     exact absurd H (by simp)
    rw [if_pos c13] at H
    have c13b0 : decide ((ji11) < (l1.length : Int)) = true := decide_eq_true c13
    clear c13
    by_cases c14 : 0 ≤ (rd l1 (ji11))
    rotate_left
    ·rw [if_neg c14] at H
     exact absurd H (by simp)
    rw [if_pos c14] at H
    have c14b0 : decide (0 ≤ (rd l1 (ji11))) = true := decide_eq_true c14
    clear c14
    by_cases c15 : (rd l1 (ji11)) < (l0_1.length : Int)
    rotate_left
    ·rw [if_neg c15] at H
     exact absurd H (by simp)
    rw [if_pos c15] at H
    have c15b0 : decide ((rd l1 (ji11)) < (l0_1.length : Int)) = true := decide_eq_true c15
    clear c15
    by_cases c16 : ((rd_T37 l0_1 (rd l1 x5_1)).f0) = ((rd_T37 l0_1 (rd l1 (ji11))).f1)
    ·rw [if_pos c16] at H
     have c16b0 : (((rd_T37 l0_1 (rd l1 x5_1)).f0) == ((rd_T37 l0_1 (rd l1 (ji11))).f1)) = true := beq_iff_eq.mpr c16
     have c16b1 : (((rd_T37 l0_1 (rd l1 x5_1)).f0) != ((rd_T37 l0_1 (rd l1 (ji11))).f1)) = false := bne_eq_false_iff_eq.mpr c16
     clear c16
     have H' := Aside0.mk H
     clear H
     try go_wp2
     replace BK635 := Aside0.mk (blk_drew BK635.out)
     replace HB := Aside0.mk (below_drew1 HB.out)
     have p636 : 0 ≤ (x5_1 : Int) := of_decide_eq_true nx_
     have q636 : x5_1 < (l1.length : Int) := of_decide_eq_true nx_
     obtain ⟨ad636, e636, hx636_0⟩ := Kd.at_int HR1.out x5_1 p636 q636
     have hw636_0 := hx636_0
     cases e636
     replace hx636_0 := hb_ HB.out hx636_0
     replace p636 := eq_true p636
     replace q636 := eq_true q636
     have p638 : 0 ≤ (x5_1 : Int) := of_decide_eq_true nx_
     have q638 : x5_1 < (l1.length : Int) := of_decide_eq_true nx_
     obtain ⟨ad638, e638, hx638_0⟩ := Kd.at_int HR1.out x5_1 p638 q638
     have hw638_0 := hx638_0
     obtain rfl : ad636 = ad638 := (by injection e638)
     replace hx638_0 := hb_ HB.out hx638_0
     replace p638 := eq_true p638
     replace q638 := eq_true q638
     have p639 : 0 ≤ ((rd l1 x5_1) : Int) := of_decide_eq_true nx_
     have q639 : (rd l1 x5_1) < (l0_1.length : Int) := of_decide_eq_true nx_
     obtain ⟨ad639, e639, hx639_0, hx639_1, hx639_2, hx639_3, hx639_4⟩ := at_T37 HR0_1.out (rd l1 x5_1) p639 q639
     have hw639_4 := hx639_4
     have hw639_3 := hx639_3
     have hw639_2 := hx639_2
     have hw639_1 := hx639_1
     have hw639_0 := hx639_0
     cases e639
     replace hx639_0 := hb_ HB.out hx639_0
     replace hx639_1 := hb_ HB.out hx639_1
     replace hx639_2 := hb_ HB.out hx639_2
     replace hx639_3 := hb_ HB.out hx639_3
     replace hx639_4 := hb_ HB.out hx639_4
     replace p639 := eq_true p639
     replace q639 := eq_true q639
     have p640 : 0 ≤ ((ji11) : Int) := of_decide_eq_true nx_
     have q640 : (ji11) < (l1.length : Int) := of_decide_eq_true nx_
     obtain ⟨ad640, e640, hx640_0⟩ := Kd.at_int HR1.out (ji11) p640 q640
     have hw640_0 := hx640_0
     obtain rfl : ad636 = ad640 := (by injection e640)
     replace hx640_0 := hb_ HB.out hx640_0
     replace p640 := eq_true p640
     replace q640 := eq_true q640
     have p641 : 0 ≤ ((rd l1 (ji11)) : Int) := of_decide_eq_true nx_
     have q641 : (rd l1 (ji11)) < (l0_1.length : Int) := of_decide_eq_true nx_
     obtain ⟨ad641, e641, hx641_0, hx641_1, hx641_2, hx641_3, hx641_4⟩ := at_T37 HR0_1.out (rd l1 (ji11)) p641 q641
     have hw641_4 := hx641_4
     have hw641_3 := hx641_3
     have hw641_2 := hx641_2
     have hw641_1 := hx641_1
     have hw641_0 := hx641_0
     obtain rfl : ad639 = ad641 := (by injection e641)
     replace hx641_0 := hb_ HB.out hx641_0
     replace hx641_1 := hb_ HB.out hx641_1
     replace hx641_2 := hb_ HB.out hx641_2
     replace hx641_3 := hb_ HB.out hx641_3
     replace hx641_4 := hb_ HB.out hx641_4
     replace p641 := eq_true p641
     replace q641 := eq_true q641
     refine start_ (n := 36) (S := fun w' => w'.cell? ⟨gb635, 0, none⟩ = some (.int .i64 a0_0) ∧ w'.cell? ⟨gb635, 1, none⟩ = some (.slice (some ad639) l0_1.length c0_1) ∧ w'.cell? (ad636.add (x5_1).toNat) = some (.int .i64 (rd l1 x5_1)) ∧ w'.cell? (ad636.add (x5_1).toNat) = some (.int .i64 (rd l1 x5_1)) ∧ w'.cell? (ad639.add (((rd l1 x5_1)).toNat * 5)) = some (.int .i64 ((rd_T37 l0_1 (rd l1 x5_1)).f0)) ∧ w'.cell? ⟨(ad639.add (((rd l1 x5_1)).toNat * 5)).block, (ad639.add (((rd l1 x5_1)).toNat * 5)).off + 1, none⟩ = some (.int .i64 ((rd_T37 l0_1 (rd l1 x5_1)).f1)) ∧ w'.cell? ⟨(ad639.add (((rd l1 x5_1)).toNat * 5)).block, (ad639.add (((rd l1 x5_1)).toNat * 5)).off + 2, none⟩ = some (.int .i64 ((rd_T37 l0_1 (rd l1 x5_1)).f2)) ∧ w'.cell? ⟨(ad639.add (((rd l1 x5_1)).toNat * 5)).block, (ad639.add (((rd l1 x5_1)).toNat * 5)).off + 3, none⟩ = some (.int .i64 ((rd_T37 l0_1 (rd l1 x5_1)).f3)) ∧ w'.cell? ⟨(ad639.add (((rd l1 x5_1)).toNat * 5)).block, (ad639.add (((rd l1 x5_1)).toNat * 5)).off + 4, none⟩ = some (.int .i64 ((rd_T37 l0_1 (rd l1 x5_1)).f4)) ∧ w'.cell? (ad636.add ((ji11)).toNat) = some (.int .i64 (rd l1 (ji11))) ∧ w'.cell? (ad639.add (((rd l1 (ji11))).toNat * 5)) = some (.int .i64 ((rd_T37 l0_1 (rd l1 (ji11))).f0)) ∧ w'.cell? ⟨(ad639.add (((rd l1 (ji11))).toNat * 5)).block, (ad639.add (((rd l1 (ji11))).toNat * 5)).off + 1, none⟩ = some (.int .i64 ((rd_T37 l0_1 (rd l1 (ji11))).f1)) ∧ w'.cell? ⟨(ad639.add (((rd l1 (ji11))).toNat * 5)).block, (ad639.add (((rd l1 (ji11))).toNat * 5)).off + 2, none⟩ = some (.int .i64 ((rd_T37 l0_1 (rd l1 (ji11))).f2)) ∧ w'.cell? ⟨(ad639.add (((rd l1 (ji11))).toNat * 5)).block, (ad639.add (((rd l1 (ji11))).toNat * 5)).off + 3, none⟩ = some (.int .i64 ((rd_T37 l0_1 (rd l1 (ji11))).f3)) ∧ w'.cell? ⟨(ad639.add (((rd l1 (ji11))).toNat * 5)).block, (ad639.add (((rd l1 (ji11))).toNat * 5)).off + 4, none⟩ = some (.int .i64 ((rd_T37 l0_1 (rd l1 (ji11))).f4))) (ds := []) z83_0 (by kernel_rfl) rfl rfl ⟨ct_ BK635.out 0, ct_ BK635.out 1, ((HB.out.cell (World.block_lt_of_cell? w _ hw636_0)).trans hw636_0), ((HB.out.cell (World.block_lt_of_cell? w _ hw638_0)).trans hw638_0), ((HB.out.cell (World.block_lt_of_cell? w _ hw639_0)).trans hw639_0), ((HB.out.cell (World.block_lt_of_cell? w _ hw639_1)).trans hw639_1), ((HB.out.cell (World.block_lt_of_cell? w _ hw639_2)).trans hw639_2), ((HB.out.cell (World.block_lt_of_cell? w _ hw639_3)).trans hw639_3), ((HB.out.cell (World.block_lt_of_cell? w _ hw639_4)).trans hw639_4), ((HB.out.cell (World.block_lt_of_cell? w _ hw640_0)).trans hw640_0), ((HB.out.cell (World.block_lt_of_cell? w _ hw641_0)).trans hw641_0), ((HB.out.cell (World.block_lt_of_cell? w _ hw641_1)).trans hw641_1), ((HB.out.cell (World.block_lt_of_cell? w _ hw641_2)).trans hw641_2), ((HB.out.cell (World.block_lt_of_cell? w _ hw641_3)).trans hw641_3), ((HB.out.cell (World.block_lt_of_cell? w _ hw641_4)).trans hw641_4)⟩ (fun hHeld => ?_); refine with_tabW spec_l2Ok.tab4 spec_l2Ok.bits4 (fun HT_ HW_ => ?_)
     generalize wr.drew = w17 at BK635 HB hx636_0 hx638_0 hx639_0 hx639_1 hx639_2 hx639_3 hx639_4 hx640_0 hx641_0 hx641_1 hx641_2 hx641_3 hx641_4 hHeld ⊢
     refine pu_ 0 12 z83_1 HT_.out ?_
     refine pu_ 1 13 z83_2 HT_.out ?_
     refine pu_ 2 14 z83_3 HT_.out ?_
     refine pu_ 4 16 z83_4 HT_.out ?_
     refine tk_ 3 15 z83_5 HT_.out HW_.out hHeld ?_
     refine tk_ 5 17 z83_6 HT_.out HW_.out hHeld ?_
     refine pu_ 6 18 z83_7 HT_.out ?_
     refine pu_ 7 19 z83_8 HT_.out ?_
     refine one_ (i := 8) (N := some 20) z83_9 rfl rfl (one_of HT_.out (by kernel_rfl)) (by decide) (fun K hK => ?_)
     refine go_ Try.func92 #[.int .i64 (rd l1 x5_1), .int .i64 0, .int .i64 (wrap64 ((l0_1.length : Int) - 1))] ?_
     with_reducible refine (spec_l1In.calls (rd l1 x5_1) 0 (wrap64 ((l0_1.length : Int) - 1)) true _ A6.out).mono ?_
     rintro e w' ⟨rfl, ⟨nd, rfl⟩⟩
     refine ⟨_, rfl, ?_⟩
     refine hK.out _ _ ⟨ct_ BK635.out 0, ct_ BK635.out 1, ((HB.out.cell (World.block_lt_of_cell? w _ hw636_0)).trans hw636_0), ((HB.out.cell (World.block_lt_of_cell? w _ hw638_0)).trans hw638_0), ((HB.out.cell (World.block_lt_of_cell? w _ hw639_0)).trans hw639_0), ((HB.out.cell (World.block_lt_of_cell? w _ hw639_1)).trans hw639_1), ((HB.out.cell (World.block_lt_of_cell? w _ hw639_2)).trans hw639_2), ((HB.out.cell (World.block_lt_of_cell? w _ hw639_3)).trans hw639_3), ((HB.out.cell (World.block_lt_of_cell? w _ hw639_4)).trans hw639_4), ((HB.out.cell (World.block_lt_of_cell? w _ hw640_0)).trans hw640_0), ((HB.out.cell (World.block_lt_of_cell? w _ hw641_0)).trans hw641_0), ((HB.out.cell (World.block_lt_of_cell? w _ hw641_1)).trans hw641_1), ((HB.out.cell (World.block_lt_of_cell? w _ hw641_2)).trans hw641_2), ((HB.out.cell (World.block_lt_of_cell? w _ hw641_3)).trans hw641_3), ((HB.out.cell (World.block_lt_of_cell? w _ hw641_4)).trans hw641_4)⟩ (fun hHeld => ?_)
     clear hK K
     refine nm1_ (some 20) ?_
     refine pu_ 9 21 z83_10 HT_.out ?_
     refine pu_ 10 22 z83_11 HT_.out ?_
     refine pu_ 11 23 z83_12 HT_.out ?_
     refine pu_ 12 24 z83_13 HT_.out ?_
     refine pu_ 13 25 z83_14 HT_.out ?_
     refine pu_ 14 26 z83_15 HT_.out ?_
     refine pu_ 16 28 z83_16 HT_.out ?_
     refine pu_ 17 29 z83_17 HT_.out ?_
     refine pu_ 18 30 z83_18 HT_.out ?_
     refine pu_ 23 35 z83_19 HT_.out ?_
     refine pu_ 25 37 z83_20 HT_.out ?_
     refine pu_ 26 38 z83_21 HT_.out ?_
     refine pu_ 27 39 z83_22 HT_.out ?_
     refine pu_ 28 40 z83_23 HT_.out ?_
     refine tk_ 15 27 z83_24 HT_.out HW_.out hHeld ?_
     refine tk_ 19 31 z83_25 HT_.out HW_.out hHeld ?_
     refine pu_ 20 32 z83_26 HT_.out ?_
     refine pu_ 21 33 z83_27 HT_.out ?_
     refine tk_ 22 34 z83_28 HT_.out HW_.out hHeld ?_
     refine tk_ 24 36 z83_29 HT_.out HW_.out hHeld ?_
     refine tk_ 29 41 z83_30 HT_.out HW_.out hHeld ?_
     refine pu_ 30 42 z83_31 HT_.out ?_
     refine pu_ 31 43 z83_32 HT_.out ?_
     refine tk_ 32 44 z83_33 HT_.out HW_.out hHeld ?_
     refine pu_ 33 45 z83_34 HT_.out ?_
     refine pu_ 34 46 z83_35 HT_.out ?_
     refine pu_ 35 47 z83_36 HT_.out ?_
     refine done_ (done_of HT_.out (by kernel_rfl)) ?_
     try go_wp2
     go_roundg k1
     case measure => have := HK1.out; omega
     case rel => exact ⟨(wrap64 (x5_1 + 1)), ns_, H', ⟨by have := HK1.out; omega⟩, ⟨nb_ BK635.out⟩, ⟨ne_ HB.out⟩⟩
    rw [if_neg c16] at H
    have c16b0 : (((rd_T37 l0_1 (rd l1 x5_1)).f0) == ((rd_T37 l0_1 (rd l1 (ji11))).f1)) = false := beq_eq_false_iff_ne.mpr c16
    have c16b1 : (((rd_T37 l0_1 (rd l1 x5_1)).f0) != ((rd_T37 l0_1 (rd l1 (ji11))).f1)) = true := bne_iff_ne.mpr c16
    obtain rfl := Option.some.inj H
    try go_wp2
    replace BK635 := Aside0.mk (blk_drew BK635.out)
    replace HB := Aside0.mk (below_drew1 HB.out)
    have p636 : 0 ≤ (x5_1 : Int) := of_decide_eq_true nx_
    have q636 : x5_1 < (l1.length : Int) := of_decide_eq_true nx_
    obtain ⟨ad636, e636, hx636_0⟩ := Kd.at_int HR1.out x5_1 p636 q636
    have hw636_0 := hx636_0
    cases e636
    replace hx636_0 := hb_ HB.out hx636_0
    replace p636 := eq_true p636
    replace q636 := eq_true q636
    have p638 : 0 ≤ (x5_1 : Int) := of_decide_eq_true nx_
    have q638 : x5_1 < (l1.length : Int) := of_decide_eq_true nx_
    obtain ⟨ad638, e638, hx638_0⟩ := Kd.at_int HR1.out x5_1 p638 q638
    have hw638_0 := hx638_0
    obtain rfl : ad636 = ad638 := (by injection e638)
    replace hx638_0 := hb_ HB.out hx638_0
    replace p638 := eq_true p638
    replace q638 := eq_true q638
    have p639 : 0 ≤ ((rd l1 x5_1) : Int) := of_decide_eq_true nx_
    have q639 : (rd l1 x5_1) < (l0_1.length : Int) := of_decide_eq_true nx_
    obtain ⟨ad639, e639, hx639_0, hx639_1, hx639_2, hx639_3, hx639_4⟩ := at_T37 HR0_1.out (rd l1 x5_1) p639 q639
    have hw639_4 := hx639_4
    have hw639_3 := hx639_3
    have hw639_2 := hx639_2
    have hw639_1 := hx639_1
    have hw639_0 := hx639_0
    cases e639
    replace hx639_0 := hb_ HB.out hx639_0
    replace hx639_1 := hb_ HB.out hx639_1
    replace hx639_2 := hb_ HB.out hx639_2
    replace hx639_3 := hb_ HB.out hx639_3
    replace hx639_4 := hb_ HB.out hx639_4
    replace p639 := eq_true p639
    replace q639 := eq_true q639
    have p640 : 0 ≤ ((ji11) : Int) := of_decide_eq_true nx_
    have q640 : (ji11) < (l1.length : Int) := of_decide_eq_true nx_
    obtain ⟨ad640, e640, hx640_0⟩ := Kd.at_int HR1.out (ji11) p640 q640
    have hw640_0 := hx640_0
    obtain rfl : ad636 = ad640 := (by injection e640)
    replace hx640_0 := hb_ HB.out hx640_0
    replace p640 := eq_true p640
    replace q640 := eq_true q640
    have p641 : 0 ≤ ((rd l1 (ji11)) : Int) := of_decide_eq_true nx_
    have q641 : (rd l1 (ji11)) < (l0_1.length : Int) := of_decide_eq_true nx_
    obtain ⟨ad641, e641, hx641_0, hx641_1, hx641_2, hx641_3, hx641_4⟩ := at_T37 HR0_1.out (rd l1 (ji11)) p641 q641
    have hw641_4 := hx641_4
    have hw641_3 := hx641_3
    have hw641_2 := hx641_2
    have hw641_1 := hx641_1
    have hw641_0 := hx641_0
    obtain rfl : ad639 = ad641 := (by injection e641)
    replace hx641_0 := hb_ HB.out hx641_0
    replace hx641_1 := hb_ HB.out hx641_1
    replace hx641_2 := hb_ HB.out hx641_2
    replace hx641_3 := hb_ HB.out hx641_3
    replace hx641_4 := hb_ HB.out hx641_4
    replace p641 := eq_true p641
    replace q641 := eq_true q641
    refine start_ (n := 36) (S := fun w' => w'.cell? ⟨gb635, 0, none⟩ = some (.int .i64 a0_0) ∧ w'.cell? ⟨gb635, 1, none⟩ = some (.slice (some ad639) l0_1.length c0_1) ∧ w'.cell? (ad636.add (x5_1).toNat) = some (.int .i64 (rd l1 x5_1)) ∧ w'.cell? (ad636.add (x5_1).toNat) = some (.int .i64 (rd l1 x5_1)) ∧ w'.cell? (ad639.add (((rd l1 x5_1)).toNat * 5)) = some (.int .i64 ((rd_T37 l0_1 (rd l1 x5_1)).f0)) ∧ w'.cell? ⟨(ad639.add (((rd l1 x5_1)).toNat * 5)).block, (ad639.add (((rd l1 x5_1)).toNat * 5)).off + 1, none⟩ = some (.int .i64 ((rd_T37 l0_1 (rd l1 x5_1)).f1)) ∧ w'.cell? ⟨(ad639.add (((rd l1 x5_1)).toNat * 5)).block, (ad639.add (((rd l1 x5_1)).toNat * 5)).off + 2, none⟩ = some (.int .i64 ((rd_T37 l0_1 (rd l1 x5_1)).f2)) ∧ w'.cell? ⟨(ad639.add (((rd l1 x5_1)).toNat * 5)).block, (ad639.add (((rd l1 x5_1)).toNat * 5)).off + 3, none⟩ = some (.int .i64 ((rd_T37 l0_1 (rd l1 x5_1)).f3)) ∧ w'.cell? ⟨(ad639.add (((rd l1 x5_1)).toNat * 5)).block, (ad639.add (((rd l1 x5_1)).toNat * 5)).off + 4, none⟩ = some (.int .i64 ((rd_T37 l0_1 (rd l1 x5_1)).f4)) ∧ w'.cell? (ad636.add ((ji11)).toNat) = some (.int .i64 (rd l1 (ji11))) ∧ w'.cell? (ad639.add (((rd l1 (ji11))).toNat * 5)) = some (.int .i64 ((rd_T37 l0_1 (rd l1 (ji11))).f0)) ∧ w'.cell? ⟨(ad639.add (((rd l1 (ji11))).toNat * 5)).block, (ad639.add (((rd l1 (ji11))).toNat * 5)).off + 1, none⟩ = some (.int .i64 ((rd_T37 l0_1 (rd l1 (ji11))).f1)) ∧ w'.cell? ⟨(ad639.add (((rd l1 (ji11))).toNat * 5)).block, (ad639.add (((rd l1 (ji11))).toNat * 5)).off + 2, none⟩ = some (.int .i64 ((rd_T37 l0_1 (rd l1 (ji11))).f2)) ∧ w'.cell? ⟨(ad639.add (((rd l1 (ji11))).toNat * 5)).block, (ad639.add (((rd l1 (ji11))).toNat * 5)).off + 3, none⟩ = some (.int .i64 ((rd_T37 l0_1 (rd l1 (ji11))).f3)) ∧ w'.cell? ⟨(ad639.add (((rd l1 (ji11))).toNat * 5)).block, (ad639.add (((rd l1 (ji11))).toNat * 5)).off + 4, none⟩ = some (.int .i64 ((rd_T37 l0_1 (rd l1 (ji11))).f4))) (ds := []) z83_0 (by kernel_rfl) rfl rfl ⟨ct_ BK635.out 0, ct_ BK635.out 1, ((HB.out.cell (World.block_lt_of_cell? w _ hw636_0)).trans hw636_0), ((HB.out.cell (World.block_lt_of_cell? w _ hw638_0)).trans hw638_0), ((HB.out.cell (World.block_lt_of_cell? w _ hw639_0)).trans hw639_0), ((HB.out.cell (World.block_lt_of_cell? w _ hw639_1)).trans hw639_1), ((HB.out.cell (World.block_lt_of_cell? w _ hw639_2)).trans hw639_2), ((HB.out.cell (World.block_lt_of_cell? w _ hw639_3)).trans hw639_3), ((HB.out.cell (World.block_lt_of_cell? w _ hw639_4)).trans hw639_4), ((HB.out.cell (World.block_lt_of_cell? w _ hw640_0)).trans hw640_0), ((HB.out.cell (World.block_lt_of_cell? w _ hw641_0)).trans hw641_0), ((HB.out.cell (World.block_lt_of_cell? w _ hw641_1)).trans hw641_1), ((HB.out.cell (World.block_lt_of_cell? w _ hw641_2)).trans hw641_2), ((HB.out.cell (World.block_lt_of_cell? w _ hw641_3)).trans hw641_3), ((HB.out.cell (World.block_lt_of_cell? w _ hw641_4)).trans hw641_4)⟩ (fun hHeld => ?_); refine with_tabW spec_l2Ok.tab4 spec_l2Ok.bits4 (fun HT_ HW_ => ?_)
    generalize wr.drew = w18 at BK635 HB hx636_0 hx638_0 hx639_0 hx639_1 hx639_2 hx639_3 hx639_4 hx640_0 hx641_0 hx641_1 hx641_2 hx641_3 hx641_4 hHeld ⊢
    refine pu_ 0 12 z83_1 HT_.out ?_
    refine pu_ 1 13 z83_2 HT_.out ?_
    refine pu_ 2 14 z83_3 HT_.out ?_
    refine pu_ 4 16 z83_4 HT_.out ?_
    refine tk_ 3 15 z83_5 HT_.out HW_.out hHeld ?_
    refine tk_ 5 17 z83_6 HT_.out HW_.out hHeld ?_
    refine pu_ 6 18 z83_7 HT_.out ?_
    refine pu_ 7 19 z83_8 HT_.out ?_
    refine one_ (i := 8) (N := some 20) z83_9 rfl rfl (one_of HT_.out (by kernel_rfl)) (by decide) (fun K hK => ?_)
    refine go_ Try.func92 #[.int .i64 (rd l1 x5_1), .int .i64 0, .int .i64 (wrap64 ((l0_1.length : Int) - 1))] ?_
    with_reducible refine (spec_l1In.calls (rd l1 x5_1) 0 (wrap64 ((l0_1.length : Int) - 1)) true _ A6.out).mono ?_
    rintro e w' ⟨rfl, ⟨nd, rfl⟩⟩
    refine ⟨_, rfl, ?_⟩
    refine hK.out _ _ ⟨ct_ BK635.out 0, ct_ BK635.out 1, ((HB.out.cell (World.block_lt_of_cell? w _ hw636_0)).trans hw636_0), ((HB.out.cell (World.block_lt_of_cell? w _ hw638_0)).trans hw638_0), ((HB.out.cell (World.block_lt_of_cell? w _ hw639_0)).trans hw639_0), ((HB.out.cell (World.block_lt_of_cell? w _ hw639_1)).trans hw639_1), ((HB.out.cell (World.block_lt_of_cell? w _ hw639_2)).trans hw639_2), ((HB.out.cell (World.block_lt_of_cell? w _ hw639_3)).trans hw639_3), ((HB.out.cell (World.block_lt_of_cell? w _ hw639_4)).trans hw639_4), ((HB.out.cell (World.block_lt_of_cell? w _ hw640_0)).trans hw640_0), ((HB.out.cell (World.block_lt_of_cell? w _ hw641_0)).trans hw641_0), ((HB.out.cell (World.block_lt_of_cell? w _ hw641_1)).trans hw641_1), ((HB.out.cell (World.block_lt_of_cell? w _ hw641_2)).trans hw641_2), ((HB.out.cell (World.block_lt_of_cell? w _ hw641_3)).trans hw641_3), ((HB.out.cell (World.block_lt_of_cell? w _ hw641_4)).trans hw641_4)⟩ (fun hHeld => ?_)
    clear hK K
    refine nm1_ (some 20) ?_
    refine pu_ 9 21 z83_10 HT_.out ?_
    refine pu_ 10 22 z83_11 HT_.out ?_
    refine pu_ 11 23 z83_12 HT_.out ?_
    refine pu_ 12 24 z83_13 HT_.out ?_
    refine pu_ 13 25 z83_14 HT_.out ?_
    refine pu_ 14 26 z83_15 HT_.out ?_
    refine pu_ 16 28 z83_16 HT_.out ?_
    refine pu_ 17 29 z83_17 HT_.out ?_
    refine pu_ 18 30 z83_18 HT_.out ?_
    refine pu_ 23 35 z83_19 HT_.out ?_
    refine pu_ 25 37 z83_20 HT_.out ?_
    refine pu_ 26 38 z83_21 HT_.out ?_
    refine pu_ 27 39 z83_22 HT_.out ?_
    refine pu_ 28 40 z83_23 HT_.out ?_
    refine tk_ 15 27 z83_24 HT_.out HW_.out hHeld ?_
    refine tk_ 19 31 z83_25 HT_.out HW_.out hHeld ?_
    refine pu_ 20 32 z83_26 HT_.out ?_
    refine pu_ 21 33 z83_27 HT_.out ?_
    refine tk_ 22 34 z83_28 HT_.out HW_.out hHeld ?_
    refine tk_ 24 36 z83_29 HT_.out HW_.out hHeld ?_
    refine tk_ 29 41 z83_30 HT_.out HW_.out hHeld ?_
    refine pu_ 30 42 z83_31 HT_.out ?_
    refine pu_ 31 43 z83_32 HT_.out ?_
    refine tk_ 32 44 z83_33 HT_.out HW_.out hHeld ?_
    refine pu_ 33 45 z83_34 HT_.out ?_
    refine pu_ 34 46 z83_35 HT_.out ?_
    refine pu_ 35 47 z83_36 HT_.out ?_
    refine done_ (done_of HT_.out (by kernel_rfl)) ?_
    try go_wp2
    go_ret
    exact ⟨by first | rfl | (simp [errW_none, errW_some] <;> rfl) | (simp only [← hji11]; first | rfl | (simp [errW_none, errW_some] <;> rfl)) | (simp [*, errW_none, errW_some] <;> rfl), ne_ HB.out⟩
end Go.Proofs.Ytpjmkghmjpbldaa.Print
