-- Made by this session's own program (wip/patch_print.py, over the kit's print). Lean checks it.
import Derived.Test.YtfijdkjibjdbiaaPrint0
import Derived.Test.YtfijdkjibjdbiaaPrintB
namespace Go.Proofs.Ytfijdkjibjdbiaa.Print
open Go.RowKit Go.Proofs.YtfijdkjibjdbiaaW.PrintWords Go.Proofs.YtfijdkjibjdbiaaW.PrintLast Go.Proofs.YtfijdkjibjdbiaaW.PrintMore Go.Proofs.YtfijdkjibjdbiaaX
attribute [local go_sem] max2_int min2_int max_two min_two max_three min_three max_four min_four   -- for this text's walks alone
set_option linter.unusedVariables false
set_option linter.unusedSimpArgs false

abbrev z19_0 := bm_ 56 0
abbrev z19_1 := bm_ 56 1
abbrev z19_2 := bm_ 56 3
abbrev z19_3 := bm_ 56 7
abbrev z19_4 := bm_ 56 15
abbrev z19_5 := bm_ 56 47
abbrev z19_6 := bm_ 56 63
abbrev z19_7 := bm_ 56 127
abbrev z19_8 := bm_ 56 255
abbrev z19_9 := bm_ 56 511
abbrev z19_10 := bm_ 56 1023
abbrev z19_11 := bm_ 56 2047
abbrev z19_12 := bm_ 56 4095
abbrev z19_13 := bm_ 56 8191
abbrev z19_14 := bm_ 56 16383
abbrev z19_15 := bm_ 56 32767
abbrev z19_16 := bm_ 56 65535
abbrev z19_17 := bm_ 56 196607
abbrev z19_18 := bm_ 56 262143
abbrev z19_19 := bm_ 56 524287
abbrev z19_20 := bm_ 56 1048575
abbrev z19_21 := bm_ 56 2097151
abbrev z19_22 := bm_ 56 4194303
abbrev z19_23 := bm_ 56 8388607
abbrev z19_24 := bm_ 56 16777215
abbrev z19_25 := bm_ 56 33554431
abbrev z19_26 := bm_ 56 67108863
abbrev z19_27 := bm_ 56 201326591
abbrev z19_28 := bm_ 56 469762047
abbrev z19_29 := bm_ 56 1006632959
abbrev z19_30 := bm_ 56 2080374783
abbrev z19_31 := bm_ 56 36440113151
abbrev z19_32 := bm_ 56 173879066623
abbrev z19_33 := bm_ 56 448756973567
abbrev z19_34 := bm_ 56 998512787455
abbrev z19_35 := bm_ 56 2098024415231
abbrev z19_36 := bm_ 56 2098091524095
abbrev z19_37 := bm_ 56 2100239007743
abbrev z19_38 := bm_ 56 2104533975039
abbrev z19_39 := bm_ 56 2113123909631
abbrev z19_40 := bm_ 56 2130303778815
abbrev z19_41 := bm_ 56 2199023255551
abbrev z19_42 := bm_ 56 4398046511103
abbrev z19_43 := bm_ 56 8796093022207
abbrev z19_44 := bm_ 56 17592186044415
abbrev z19_45 := bm_ 56 35184372088831
abbrev z19_46 := bm_ 56 70368744177663
abbrev z19_47 := bm_ 56 140737488355327
abbrev z19_48 := bm_ 56 281474976710655
abbrev z19_49 := bm_ 56 562949953421311
abbrev z19_50 := bm_ 56 1125899906842623
abbrev z19_51 := bm_ 56 2251799813685247
abbrev z19_52 := bm_ 56 4503599627370495
abbrev z19_53 := bm_ 56 9007199254740991
abbrev z19_54 := bm_ 56 18014398509481983
abbrev z19_55 := bm_ 56 36028797018963967
abbrev z19_56 := bm_ 56 72057594037927935
abbrev z19_57 := bm_ 56 134217727
abbrev z19_58 := bm_ 56 268435455
abbrev z19_59 := bm_ 56 536870911
abbrev z19_60 := bm_ 56 1073741823
abbrev z19_61 := bm_ 56 2147483647
abbrev z19_62 := bm_ 56 4294967295
abbrev z19_63 := bm_ 56 8589934591
abbrev z19_64 := bm_ 56 17179869183
abbrev z19_65 := bm_ 56 34359738367
abbrev z19_66 := bm_ 56 68719476735
abbrev z19_67 := bm_ 56 137438953471
abbrev z19_68 := bm_ 56 274877906943
abbrev z19_69 := bm_ 56 549755813887
abbrev z19_70 := bm_ 56 1099511627775
abbrev z19_71 := bm_ 24 0
abbrev z19_72 := bm_ 24 1
abbrev z19_73 := bm_ 24 3
abbrev z19_74 := bm_ 24 7
abbrev z19_75 := bm_ 24 15
abbrev z19_76 := bm_ 24 47
abbrev z19_77 := bm_ 24 111
abbrev z19_78 := bm_ 24 239
abbrev z19_79 := bm_ 24 495
abbrev z19_80 := bm_ 24 511
abbrev z19_81 := bm_ 24 1023
abbrev z19_82 := bm_ 24 2047
abbrev z19_83 := bm_ 24 4095
abbrev z19_84 := bm_ 24 8191
abbrev z19_85 := bm_ 24 16383
abbrev z19_86 := bm_ 24 32767
abbrev z19_87 := bm_ 24 65535
abbrev z19_88 := bm_ 24 196607
abbrev z19_89 := bm_ 24 458751
abbrev z19_90 := bm_ 24 983039
abbrev z19_91 := bm_ 24 2031615
abbrev z19_92 := bm_ 24 2097151
abbrev z19_93 := bm_ 24 4194303
abbrev z19_94 := bm_ 24 8388607
abbrev z19_95 := bm_ 24 16777215
/-! ### spec_l4Ok: function 19 -/
mutual
def spec_l4Ok.l0 : Nat → List (S60) → Int → Int → List (S36) → Option (Bool)
  | 0, _, _, _, _ => none
  | k + 1, x1, x5, x243000, x243001 => if x5 < (x1.length : Int) then (if 0 ≤ x5 then ((spec_l1In.f ((rd_T60 x1 x5).f0) 0 (wrap64 ((x243001.length : Int) - 1))).bind fun t244 => (if t244 = true then ((spec_l1In.f ((rd_T60 x1 x5).f1) 0 (wrap64 ((x243001.length : Int) - 1))).bind fun t246 => (if t246 = true then (if 0 ≤ ((rd_T60 x1 x5).f0) then (if ((rd_T60 x1 x5).f0) < (x243001.length : Int) then (if 0 ≤ ((rd_T60 x1 x5).f1) then (if ((rd_T60 x1 x5).f1) < (x243001.length : Int) then (if ((rd_T36 x243001 ((rd_T60 x1 x5).f0)).f1) = ((rd_T36 x243001 ((rd_T60 x1 x5).f1)).f0) then ((spec_l1In.f ((rd_T60 x1 x5).f2) (-1) 99).bind fun t252 => (spec_l4Ok.j1 k x1 x5 (!t252) x243000 x243001)) else (spec_l4Ok.j1 k x1 x5 true x243000 x243001)) else (none)) else (none)) else (none)) else (none)) else (spec_l4Ok.j1 k x1 x5 true x243000 x243001))) else (spec_l4Ok.j1 k x1 x5 true x243000 x243001))) else (none)) else (some (decide ((x1.length : Int) ≤ 12)))
def spec_l4Ok.j1 : Nat → List (S60) → Int → Bool → Int → List (S36) → Option (Bool)
  | 0, _, _, _, _, _ => none
  | k + 1, x1, x5, x68, x243000, x243001 => if x68 = true then (some false) else (spec_l4Ok.l1 k x1 x5 0 x243000 x243001)
def spec_l4Ok.l1 : Nat → List (S60) → Int → Int → Int → List (S36) → Option (Bool)
  | 0, _, _, _, _, _ => none
  | k + 1, x1, x5, x6, x243000, x243001 => if x6 < x5 then (if 0 ≤ x6 then (if x6 < (x1.length : Int) then (if 0 ≤ x5 then (if x5 < (x1.length : Int) then (if ((rd_T60 x1 x6).f0) = ((rd_T60 x1 x5).f0) then (if ((rd_T60 x1 x6).f1) = ((rd_T60 x1 x5).f1) then (some false) else (spec_l4Ok.l1 k x1 x5 (wrap64 (x6 + 1)) x243000 x243001)) else (spec_l4Ok.l1 k x1 x5 (wrap64 (x6 + 1)) x243000 x243001)) else (none)) else (none)) else (none)) else (none)) else (spec_l4Ok.l0 k x1 (wrap64 (x5 + 1)) x243000 x243001)
end
def spec_l4Ok.f (k : Nat) (a0_0 : Int) (l0_1 : List (S36)) (l1 : List (S60)) : Option (Bool) := spec_l4Ok.l0 k l1 0 a0_0 l0_1
theorem spec_l4Ok.mono_l : ∀ k, (∀ y0 y1 y2 y3, LeO (spec_l4Ok.l0 k y0 y1 y2 y3) (spec_l4Ok.l0 (k + 1) y0 y1 y2 y3)) ∧ (∀ y0 y1 y2 y3 y4, LeO (spec_l4Ok.j1 k y0 y1 y2 y3 y4) (spec_l4Ok.j1 (k + 1) y0 y1 y2 y3 y4)) ∧ (∀ y0 y1 y2 y3 y4, LeO (spec_l4Ok.l1 k y0 y1 y2 y3 y4) (spec_l4Ok.l1 (k + 1) y0 y1 y2 y3 y4))
  | 0 => ⟨fun _ _ _ _ r h => by simp [spec_l4Ok.l0] at h, fun _ _ _ _ _ r h => by simp [spec_l4Ok.j1] at h, fun _ _ _ _ _ r h => by simp [spec_l4Ok.l1] at h⟩
  | k + 1 => by
    obtain ⟨ih0, ih1, ih2⟩ := spec_l4Ok.mono_l k
    refine ⟨?_, ?_, ?_⟩
    · intro y0 y1 y2 y3
      unfold spec_l4Ok.l0
      repeat' first | (with_reducible first | exact ih0 _ _ _ _ | exact ih1 _ _ _ _ _ | exact ih2 _ _ _ _ _ | exact LeO.refl _ | exact LeO.none _ | refine LeO.ite ?_ ?_ | refine LeO.bind ?_ (fun _ => ?_)) | exact ih0 _ _ _ _ | exact ih1 _ _ _ _ _ | exact ih2 _ _ _ _ _ | exact LeO.none _ | refine LeO.ite ?_ ?_ | refine LeO.bind ?_ (fun _ => ?_)
    · intro y0 y1 y2 y3 y4
      unfold spec_l4Ok.j1
      repeat' first | (with_reducible first | exact ih0 _ _ _ _ | exact ih1 _ _ _ _ _ | exact ih2 _ _ _ _ _ | exact LeO.refl _ | exact LeO.none _ | refine LeO.ite ?_ ?_ | refine LeO.bind ?_ (fun _ => ?_)) | exact ih0 _ _ _ _ | exact ih1 _ _ _ _ _ | exact ih2 _ _ _ _ _ | exact LeO.none _ | refine LeO.ite ?_ ?_ | refine LeO.bind ?_ (fun _ => ?_)
    · intro y0 y1 y2 y3 y4
      unfold spec_l4Ok.l1
      repeat' first | (with_reducible first | exact ih0 _ _ _ _ | exact ih1 _ _ _ _ _ | exact ih2 _ _ _ _ _ | exact LeO.refl _ | exact LeO.none _ | refine LeO.ite ?_ ?_ | refine LeO.bind ?_ (fun _ => ?_)) | exact ih0 _ _ _ _ | exact ih1 _ _ _ _ _ | exact ih2 _ _ _ _ _ | exact LeO.none _ | refine LeO.ite ?_ ?_ | refine LeO.bind ?_ (fun _ => ?_)
theorem spec_l4Ok.mono : ∀ a0 a1 a2 k, LeO (spec_l4Ok.f k a0 a1 a2) (spec_l4Ok.f (k + 1) a0 a1 a2) := by
  intro a0 a1 a2 k
  obtain ⟨ih0, ih1, ih2⟩ := spec_l4Ok.mono_l k
  unfold spec_l4Ok.f
  repeat' first | (with_reducible first | exact ih0 _ _ _ _ | exact ih1 _ _ _ _ _ | exact ih2 _ _ _ _ _ | exact LeO.refl _ | exact LeO.none _ | refine LeO.ite ?_ ?_ | refine LeO.bind ?_ (fun _ => ?_)) | exact ih0 _ _ _ _ | exact ih1 _ _ _ _ _ | exact ih2 _ _ _ _ _ | exact LeO.none _ | refine LeO.ite ?_ ?_ | refine LeO.bind ?_ (fun _ => ?_)
def spec_l4Ok.T4 : Bool × List (List Nat × List Nat) := (true, [([], []), ([], []), ([0, 1], [0, 1]), ([2], [2]), ([3], [3]), ([], []), ([5], [5]), ([6], [6]), ([7], [7]), ([4, 8], [4, 8]), ([9], [9]), ([10, 9], [10]), ([11], [11]), ([11], [11]), ([12, 13, 11], [11, 12, 13]), ([14, 11], [11, 14]), ([15, 11], [11, 15]), ([11], [11]), ([17, 11], [11, 17]), ([18, 11], [11, 18]), ([19, 11], [11, 19]), ([16, 20, 11, 11], [11, 16, 20]), ([21, 11], [11, 21]), ([11, 22], [11, 22]), ([23, 21], [23]), ([24], [24]), ([25, 24], [24, 25]), ([24], [24]), ([24], [24]), ([27, 28, 24], [24, 27, 28]), ([29, 24], [24, 29]), ([30, 24], [24, 30]), ([26, 31, 24], [24, 26, 31]), ([32, 24], [24, 32]), ([33, 24], [24, 33]), ([24], [24]), ([35, 24], [24, 35]), ([24], [24]), ([24], [24]), ([37, 38, 24], [24, 37, 38]), ([39, 24], [24, 39]), ([40, 24], [24, 40]), ([36, 41, 24], [24, 36, 41]), ([42, 24], [24, 42]), ([43, 24], [24, 43]), ([34, 44, 24], [24, 34, 44]), ([24, 45], [24, 45]), ([46, 24], [46]), ([47], [47]), ([47], [47]), ([48, 49, 47], [47, 48, 49]), ([50, 47], [47, 50]), ([51, 47], [47, 51]), ([52, 47, 47], [47, 52]), ([53, 47], [47, 53]), ([47, 54], [47, 54])])
def spec_l4Ok.B4 : List Nat := [0, 0, 3, 7, 15, 0, 32, 96, 224, 511, 1023, 2047, 4095, 4095, 16383, 32767, 65535, 4095, 135167, 397311, 921599, 2097151, 4194303, 8388607, 16777215, 33554431, 67108863, 33554431, 33554431, 436207615, 973078527, 2046820351, 4294967295, 8589934591, 17179869183, 33554431, 34393292799, 33554431, 33554431, 412350414847, 962106228735, 2061617856511, 4363720327167, 8761766838271, 17557859860479, 35184372088831, 70368744177663, 140737488355327, 281474976710655, 281474976710655, 1125899906842623, 2251799813685247, 4503599627370495, 9007199254740991, 18014398509481983, 36028797018963967]
theorem spec_l4Ok.tab4 : rtab .any (opsOf Try.f19 4) = spec_l4Ok.T4 := by kernel_rfl
theorem spec_l4Ok.bits4 : waitsOk spec_l4Ok.T4.2 spec_l4Ok.B4 = true := by kernel_rfl
def spec_l4Ok.T9 : Bool × List (List Nat × List Nat) := (true, [([], []), ([], []), ([0, 1], [0, 1]), ([2], [2]), ([3], [3]), ([], []), ([], []), ([5, 6], [5, 6]), ([7], [7]), ([8], [8]), ([4, 9], [4, 9]), ([10], [10]), ([11], [11]), ([11], [11]), ([12, 13, 11], [11, 12, 13]), ([14, 11], [11, 14]), ([15, 11], [11, 15]), ([11], [11]), ([11], [11]), ([17, 18, 11], [11, 17, 18]), ([19, 11], [11, 19]), ([20, 11], [11, 20]), ([16, 21, 11], [11, 16, 21]), ([11, 22], [11, 22])])
def spec_l4Ok.B9 : List Nat := [0, 0, 3, 7, 15, 0, 0, 96, 224, 480, 1023, 2047, 4095, 4095, 16383, 32767, 65535, 4095, 4095, 397311, 921599, 1970175, 4194303, 8388607]
theorem spec_l4Ok.tab9 : rtab .any (opsOf Try.f19 9) = spec_l4Ok.T9 := by kernel_rfl
theorem spec_l4Ok.bits9 : waitsOk spec_l4Ok.T9.2 spec_l4Ok.B9 = true := by kernel_rfl
set_option maxHeartbeats 200000000 in
set_option maxRecDepth 100000 in
theorem spec_l4Ok.calls (k : Nat) (a0_0 : Int) (A0_1 : Option Addr) (c0_1 : Nat) (l0_1 : List (S36)) (A1 : Option Addr) (c1 : Nat) (l1 : List (S60)) (r : Bool) (w : World) (hr0_1 : Kd.C k36 w A0_1 l0_1.length l0_1) (hc0_1 : l0_1.length ≤ c0_1) (hr1 : Kd.C k60 w A1 l1.length l1) (hc1 : l1.length ≤ c1) (h : spec_l4Ok.f k a0_0 l0_1 l1 = some r) :
    Calls Try.prog 19 #[.agg #[.int .i64 a0_0, .slice A0_1 l0_1.length c0_1], .slice A1 l1.length c1] w fun e w' => e = .returned (.bool r) ∧ Below w.heap.size w w' := by
  have hu25 := Try.underlying25
  have HR0_1 := Aside0.mk hr0_1
  have HC0_1 := Aside0.mk hc0_1
  clear hr0_1 hc0_1
  have HR1 := Aside0.mk hr1
  have HC1 := Aside0.mk hc1
  clear hr1 hc1
  have HB := Aside0.mk (Below.refl w.heap.size w)
  have H : (spec_l4Ok.l0 k l1 0 a0_0 l0_1) = some r := h
  clear h
  have H' := Aside0.mk H
  clear H
  go_enter Try.func19, Try.ntmps19
  go_wp2_with (first | ((with_reducible refine gate_dst (N := 2) rfl ?_); (try (refine gate_guard (by rfl) ?_; dsimp only)); refine bx_ 2 #[.int .i64 a0_0, .slice A0_1 l0_1.length c0_1] 25 ?_; intro gb242 hg w3 hbox hb; have BK242 := Aside0.mk (hbox); have GW242 := Aside0.mk (zs_ hg (ne_ HB.out)); have GE242 := Aside0.mk (zs_ hg (ne_ HB.out)); replace HB := kB_ HB hb; clear hb hbox hg))
  go_loopg [5] k (fun kq v5 w' => ∃ (x5_1 : Int), v5 = .int .i64 x5_1 ∧ Aside0 (spec_l4Ok.l0 kq l1 x5_1 a0_0 l0_1 = some r) ∧ Aside0 (kq ≤ k) ∧ Aside0 (w'.heap[gb242]? = some (.cells #[.int .i64 a0_0, (.slice A0_1 l0_1.length c0_1)] 25 (0, 0))) ∧ Aside0 (Below w.heap.size w w'))
  case atStart => exact ⟨(0), ns_, H', ⟨Nat.le_refl _⟩, ⟨nb_ BK242.out⟩, ⟨ne_ HB.out⟩⟩
  case round =>
   clear H'
   try clear c1
   obtain ⟨x5_1, rfl, HA, HK1, BK242, HB⟩ := hrel
   cases gk with
   | zero => exact absurd HA.out (by simp [spec_l4Ok.l0])
   | succ k1 =>
    have H := HA.out
    clear HA
    simp only [spec_l4Ok.l0] at H
    by_cases c4 : x5_1 < (l1.length : Int)
    rotate_left
    ·rw [if_neg c4] at H
     have c4b0 : decide (x5_1 < (l1.length : Int)) = false := decide_eq_false c4
     clear c4
     obtain rfl := Option.some.inj H
     go_wp2
     go_ret
     exact ⟨nw_, ne_ HB.out⟩

    rw [if_pos c4] at H
    have c4b0 : decide (x5_1 < (l1.length : Int)) = true := decide_eq_true c4
    clear c4
    have HC5 := Aside0.mk H
    clear H
    go_upto_region 4 with (fail)
    go_cut [68] (fun v68 wc => ∃ (kq : Nat) (x68_4 : Bool), v68 = .bool x68_4 ∧ Aside0 (spec_l4Ok.j1 kq l1 x5_1 x68_4 a0_0 l0_1 = some r) ∧ Aside0 (kq ≤ k1) ∧ Aside0 (wc.heap[gb242]? = some (.cells #[.int .i64 a0_0, (.slice A0_1 l0_1.length c0_1)] 25 (0, 0))) ∧ Aside0 (Below w.heap.size w wc))
    case first =>
     have H := HC5.out
     clear HC5
     by_cases c6 : 0 ≤ x5_1
     rotate_left
     ·rw [if_neg c6] at H
      exact absurd H (by simp)
     rw [if_pos c6] at H
     have c6b0 : decide (0 ≤ x5_1) = true := decide_eq_true c6
     clear c6
     (first | rw [c6b0] | (simp only [i64_w, i32_w]; rw [c6b0]) | skip)
     replace H := Option.bind_eq_some_iff.mp H
     obtain ⟨t244, A70, H⟩ := H
     try dsimp only at H
     have A7 := Aside0.mk A70
     clear A70
     by_cases c8 : t244 = true
     rotate_left
     ·replace c8 := Bool.eq_false_iff.mpr c8
      subst c8
      have H1 : (spec_l4Ok.j1 k1 l1 x5_1 true a0_0 l0_1) = some r := by rw [if_neg (show ¬ (false = true) by decide)] at H; exact H
      clear H
      have H := H1
      clear H1
      have H' := Aside0.mk H
      clear H
      try go_wp2
      replace BK242 := Aside0.mk (blk_drew BK242.out)
      replace HB := Aside0.mk (below_drew1 HB.out)
      have p243 : 0 ≤ (x5_1 : Int) := of_decide_eq_true nx_
      have q243 : x5_1 < (l1.length : Int) := of_decide_eq_true nx_
      obtain ⟨ad243, e243, hx243_0, hx243_1, hx243_2⟩ := at_T60 HR1.out x5_1 p243 q243
      have hw243_2 := hx243_2
      have hw243_1 := hx243_1
      have hw243_0 := hx243_0
      cases e243
      replace hx243_0 := hb_ HB.out hx243_0
      replace hx243_1 := hb_ HB.out hx243_1
      replace hx243_2 := hb_ HB.out hx243_2
      replace p243 := eq_true p243
      replace q243 := eq_true q243
      refine start_ (n := 56) (S := fun w' => w'.cell? ⟨gb242, 0, none⟩ = some (.int .i64 a0_0) ∧ w'.cell? ⟨gb242, 1, none⟩ = some (.slice A0_1 l0_1.length c0_1) ∧ w'.cell? (ad243.add ((x5_1).toNat * 3)) = some (.int .i64 ((rd_T60 l1 x5_1).f0)) ∧ w'.cell? ⟨(ad243.add ((x5_1).toNat * 3)).block, (ad243.add ((x5_1).toNat * 3)).off + 1, none⟩ = some (.int .i64 ((rd_T60 l1 x5_1).f1)) ∧ w'.cell? ⟨(ad243.add ((x5_1).toNat * 3)).block, (ad243.add ((x5_1).toNat * 3)).off + 2, none⟩ = some (.int .i64 ((rd_T60 l1 x5_1).f2))) (ds := []) z19_0 (by kernel_rfl) rfl rfl ⟨ct_ BK242.out 0, ct_ BK242.out 1, ((HB.out.cell (World.block_lt_of_cell? w _ hw243_0)).trans hw243_0), ((HB.out.cell (World.block_lt_of_cell? w _ hw243_1)).trans hw243_1), ((HB.out.cell (World.block_lt_of_cell? w _ hw243_2)).trans hw243_2)⟩ (fun hHeld => ?_); refine with_tabW spec_l4Ok.tab4 spec_l4Ok.bits4 (fun HT_ HW_ => ?_)
      generalize wr.drew = w20 at BK242 HB hx243_0 hx243_1 hx243_2 hHeld ⊢
      refine pu_ 0 13 z19_1 HT_.out ?_
      refine pu_ 1 14 z19_2 HT_.out ?_
      refine pu_ 2 15 z19_3 HT_.out ?_
      refine pu_ 3 16 z19_4 HT_.out ?_
      refine pu_ 5 18 z19_5 HT_.out ?_
      refine tk_ 4 17 z19_6 HT_.out HW_.out hHeld ?_
      refine tk_ 6 19 z19_7 HT_.out HW_.out hHeld ?_
      refine pu_ 7 20 z19_8 HT_.out ?_
      refine pu_ 8 21 z19_9 HT_.out ?_
      refine one_ (i := 9) (N := some 22) z19_10 rfl rfl (one_of HT_.out (by kernel_rfl)) (by decide) (fun K hK => ?_)
      refine go_ Try.func20 #[.int .i64 ((rd_T60 l1 x5_1).f0), .int .i64 0, .int .i64 (wrap64 ((l0_1.length : Int) - 1))] ?_
      with_reducible refine (spec_l1In.calls ((rd_T60 l1 x5_1).f0) 0 (wrap64 ((l0_1.length : Int) - 1)) false _ A7.out).mono ?_
      rintro e w' ⟨rfl, ⟨nd, rfl⟩⟩
      refine ⟨_, rfl, ?_⟩
      refine hK.out _ _ ⟨ct_ BK242.out 0, ct_ BK242.out 1, ((HB.out.cell (World.block_lt_of_cell? w _ hw243_0)).trans hw243_0), ((HB.out.cell (World.block_lt_of_cell? w _ hw243_1)).trans hw243_1), ((HB.out.cell (World.block_lt_of_cell? w _ hw243_2)).trans hw243_2)⟩ (fun hHeld => ?_)
      clear hK K
      refine nm1_ (some 22) ?_
      refine pu_ 10 23 z19_11 HT_.out ?_
      refine pu_ 11 24 z19_12 HT_.out ?_
      refine un_ 12 25 z19_13 HT_.out ?_
      refine un_ 13 26 z19_14 HT_.out ?_
      refine un_ 14 27 z19_15 HT_.out ?_
      refine un_ 15 28 z19_16 HT_.out ?_
      refine un_ 16 29 (bm_ 56 131071) HT_.out ?_
      refine un_ 17 30 z19_18 HT_.out ?_
      refine un_ 18 31 z19_19 HT_.out ?_
      refine un_ 19 32 z19_20 HT_.out ?_
      refine un_ 20 33 z19_21 HT_.out ?_
      refine un_ 21 34 z19_22 HT_.out ?_
      refine un_ 22 35 z19_23 HT_.out ?_
      refine pu_ 23 36 z19_24 HT_.out ?_
      refine pu_ 24 37 z19_25 HT_.out ?_
      refine un_ 25 38 z19_26 HT_.out ?_
      refine un_ 26 39 z19_57 HT_.out ?_
      refine un_ 27 40 z19_58 HT_.out ?_
      refine un_ 28 41 z19_59 HT_.out ?_
      refine un_ 29 42 z19_60 HT_.out ?_
      refine un_ 30 43 z19_61 HT_.out ?_
      refine un_ 31 44 z19_62 HT_.out ?_
      refine un_ 32 45 z19_63 HT_.out ?_
      refine un_ 33 46 z19_64 HT_.out ?_
      refine un_ 34 47 z19_65 HT_.out ?_
      refine un_ 35 48 z19_66 HT_.out ?_
      refine un_ 36 49 z19_67 HT_.out ?_
      refine un_ 37 50 z19_68 HT_.out ?_
      refine un_ 38 51 z19_69 HT_.out ?_
      refine un_ 39 52 z19_70 HT_.out ?_
      refine un_ 40 53 z19_41 HT_.out ?_
      refine un_ 41 54 z19_42 HT_.out ?_
      refine un_ 42 55 z19_43 HT_.out ?_
      refine un_ 43 56 z19_44 HT_.out ?_
      refine un_ 44 57 z19_45 HT_.out ?_
      refine un_ 45 58 z19_46 HT_.out ?_
      refine pu_ 46 59 z19_47 HT_.out ?_
      refine pu_ 47 60 z19_48 HT_.out ?_
      refine un_ 48 61 z19_49 HT_.out ?_
      refine un_ 49 62 z19_50 HT_.out ?_
      refine un_ 50 63 z19_51 HT_.out ?_
      refine un_ 51 64 z19_52 HT_.out ?_
      refine un_ 52 65 z19_53 HT_.out ?_
      refine un_ 53 66 z19_54 HT_.out ?_
      refine un_ 54 67 z19_55 HT_.out ?_
      refine pu_ 55 68 z19_56 HT_.out ?_
      refine done_ (done_of HT_.out (by kernel_rfl)) ?_
      try go_wp2
      go_meet
      case rel => exact ⟨_, (true), ns_, H', ⟨by have := HK1.out; first | omega | exact Nat.le_refl _⟩, ⟨nb_ BK242.out⟩, ⟨ne_ HB.out⟩⟩
     subst c8
     rw [if_pos rfl] at H
     replace H := Option.bind_eq_some_iff.mp H
     obtain ⟨t246, A90, H⟩ := H
     try dsimp only at H
     have A9 := Aside0.mk A90
     clear A90
     by_cases c10 : t246 = true
     rotate_left
     ·replace c10 := Bool.eq_false_iff.mpr c10
      subst c10
      have H1 : (spec_l4Ok.j1 k1 l1 x5_1 true a0_0 l0_1) = some r := by rw [if_neg (show ¬ (false = true) by decide)] at H; exact H
      clear H
      have H := H1
      clear H1
      have H' := Aside0.mk H
      clear H
      try go_wp2
      replace BK242 := Aside0.mk (blk_drew BK242.out)
      replace HB := Aside0.mk (below_drew1 HB.out)
      have p243 : 0 ≤ (x5_1 : Int) := of_decide_eq_true nx_
      have q243 : x5_1 < (l1.length : Int) := of_decide_eq_true nx_
      obtain ⟨ad243, e243, hx243_0, hx243_1, hx243_2⟩ := at_T60 HR1.out x5_1 p243 q243
      have hw243_2 := hx243_2
      have hw243_1 := hx243_1
      have hw243_0 := hx243_0
      cases e243
      replace hx243_0 := hb_ HB.out hx243_0
      replace hx243_1 := hb_ HB.out hx243_1
      replace hx243_2 := hb_ HB.out hx243_2
      replace p243 := eq_true p243
      replace q243 := eq_true q243
      have p245 : 0 ≤ (x5_1 : Int) := of_decide_eq_true nx_
      have q245 : x5_1 < (l1.length : Int) := of_decide_eq_true nx_
      obtain ⟨ad245, e245, hx245_0, hx245_1, hx245_2⟩ := at_T60 HR1.out x5_1 p245 q245
      have hw245_2 := hx245_2
      have hw245_1 := hx245_1
      have hw245_0 := hx245_0
      obtain rfl : ad243 = ad245 := (by injection e245)
      replace hx245_0 := hb_ HB.out hx245_0
      replace hx245_1 := hb_ HB.out hx245_1
      replace hx245_2 := hb_ HB.out hx245_2
      replace p245 := eq_true p245
      replace q245 := eq_true q245
      refine start_ (n := 56) (S := fun w' => w'.cell? ⟨gb242, 0, none⟩ = some (.int .i64 a0_0) ∧ w'.cell? ⟨gb242, 1, none⟩ = some (.slice A0_1 l0_1.length c0_1) ∧ w'.cell? (ad243.add ((x5_1).toNat * 3)) = some (.int .i64 ((rd_T60 l1 x5_1).f0)) ∧ w'.cell? ⟨(ad243.add ((x5_1).toNat * 3)).block, (ad243.add ((x5_1).toNat * 3)).off + 1, none⟩ = some (.int .i64 ((rd_T60 l1 x5_1).f1)) ∧ w'.cell? ⟨(ad243.add ((x5_1).toNat * 3)).block, (ad243.add ((x5_1).toNat * 3)).off + 2, none⟩ = some (.int .i64 ((rd_T60 l1 x5_1).f2)) ∧ w'.cell? (ad243.add ((x5_1).toNat * 3)) = some (.int .i64 ((rd_T60 l1 x5_1).f0)) ∧ w'.cell? ⟨(ad243.add ((x5_1).toNat * 3)).block, (ad243.add ((x5_1).toNat * 3)).off + 1, none⟩ = some (.int .i64 ((rd_T60 l1 x5_1).f1)) ∧ w'.cell? ⟨(ad243.add ((x5_1).toNat * 3)).block, (ad243.add ((x5_1).toNat * 3)).off + 2, none⟩ = some (.int .i64 ((rd_T60 l1 x5_1).f2))) (ds := []) z19_0 (by kernel_rfl) rfl rfl ⟨ct_ BK242.out 0, ct_ BK242.out 1, ((HB.out.cell (World.block_lt_of_cell? w _ hw243_0)).trans hw243_0), ((HB.out.cell (World.block_lt_of_cell? w _ hw243_1)).trans hw243_1), ((HB.out.cell (World.block_lt_of_cell? w _ hw243_2)).trans hw243_2), ((HB.out.cell (World.block_lt_of_cell? w _ hw245_0)).trans hw245_0), ((HB.out.cell (World.block_lt_of_cell? w _ hw245_1)).trans hw245_1), ((HB.out.cell (World.block_lt_of_cell? w _ hw245_2)).trans hw245_2)⟩ (fun hHeld => ?_); refine with_tabW spec_l4Ok.tab4 spec_l4Ok.bits4 (fun HT_ HW_ => ?_)
      generalize wr.drew = w19 at BK242 HB hx243_0 hx243_1 hx243_2 hx245_0 hx245_1 hx245_2 hHeld ⊢
      refine pu_ 0 13 z19_1 HT_.out ?_
      refine pu_ 1 14 z19_2 HT_.out ?_
      refine pu_ 2 15 z19_3 HT_.out ?_
      refine pu_ 3 16 z19_4 HT_.out ?_
      refine pu_ 5 18 z19_5 HT_.out ?_
      refine tk_ 4 17 z19_6 HT_.out HW_.out hHeld ?_
      refine tk_ 6 19 z19_7 HT_.out HW_.out hHeld ?_
      refine pu_ 7 20 z19_8 HT_.out ?_
      refine pu_ 8 21 z19_9 HT_.out ?_
      refine one_ (i := 9) (N := some 22) z19_10 rfl rfl (one_of HT_.out (by kernel_rfl)) (by decide) (fun K hK => ?_)
      refine go_ Try.func20 #[.int .i64 ((rd_T60 l1 x5_1).f0), .int .i64 0, .int .i64 (wrap64 ((l0_1.length : Int) - 1))] ?_
      with_reducible refine (spec_l1In.calls ((rd_T60 l1 x5_1).f0) 0 (wrap64 ((l0_1.length : Int) - 1)) true _ A7.out).mono ?_
      rintro e w' ⟨rfl, ⟨nd, rfl⟩⟩
      refine ⟨_, rfl, ?_⟩
      refine hK.out _ _ ⟨ct_ BK242.out 0, ct_ BK242.out 1, ((HB.out.cell (World.block_lt_of_cell? w _ hw243_0)).trans hw243_0), ((HB.out.cell (World.block_lt_of_cell? w _ hw243_1)).trans hw243_1), ((HB.out.cell (World.block_lt_of_cell? w _ hw243_2)).trans hw243_2), ((HB.out.cell (World.block_lt_of_cell? w _ hw245_0)).trans hw245_0), ((HB.out.cell (World.block_lt_of_cell? w _ hw245_1)).trans hw245_1), ((HB.out.cell (World.block_lt_of_cell? w _ hw245_2)).trans hw245_2)⟩ (fun hHeld => ?_)
      clear hK K
      refine nm1_ (some 22) ?_
      refine pu_ 10 23 z19_11 HT_.out ?_
      refine pu_ 11 24 z19_12 HT_.out ?_
      refine pu_ 12 25 z19_13 HT_.out ?_
      refine pu_ 13 26 z19_14 HT_.out ?_
      refine pu_ 14 27 z19_15 HT_.out ?_
      refine pu_ 15 28 z19_16 HT_.out ?_
      refine pu_ 17 30 z19_17 HT_.out ?_
      refine tk_ 16 29 z19_18 HT_.out HW_.out hHeld ?_
      refine tk_ 18 31 z19_19 HT_.out HW_.out hHeld ?_
      refine pu_ 19 32 z19_20 HT_.out ?_
      refine pu_ 20 33 z19_21 HT_.out ?_
      refine one_ (i := 21) (N := some 34) z19_22 rfl rfl (one_of HT_.out (by kernel_rfl)) (by decide) (fun K hK => ?_)
      refine go_ Try.func20 #[.int .i64 ((rd_T60 l1 x5_1).f1), .int .i64 0, .int .i64 (wrap64 ((l0_1.length : Int) - 1))] ?_
      with_reducible refine (spec_l1In.calls ((rd_T60 l1 x5_1).f1) 0 (wrap64 ((l0_1.length : Int) - 1)) false _ A9.out).mono ?_
      rintro e w' ⟨rfl, ⟨nd, rfl⟩⟩
      refine ⟨_, rfl, ?_⟩
      refine hK.out _ _ ⟨ct_ BK242.out 0, ct_ BK242.out 1, ((HB.out.cell (World.block_lt_of_cell? w _ hw243_0)).trans hw243_0), ((HB.out.cell (World.block_lt_of_cell? w _ hw243_1)).trans hw243_1), ((HB.out.cell (World.block_lt_of_cell? w _ hw243_2)).trans hw243_2), ((HB.out.cell (World.block_lt_of_cell? w _ hw245_0)).trans hw245_0), ((HB.out.cell (World.block_lt_of_cell? w _ hw245_1)).trans hw245_1), ((HB.out.cell (World.block_lt_of_cell? w _ hw245_2)).trans hw245_2)⟩ (fun hHeld => ?_)
      clear hK K
      refine nm1_ (some 34) ?_
      refine pu_ 22 35 z19_23 HT_.out ?_
      refine pu_ 23 36 z19_24 HT_.out ?_
      refine pu_ 24 37 z19_25 HT_.out ?_
      refine un_ 25 38 z19_26 HT_.out ?_
      refine un_ 26 39 z19_57 HT_.out ?_
      refine un_ 27 40 z19_58 HT_.out ?_
      refine un_ 28 41 z19_59 HT_.out ?_
      refine un_ 29 42 z19_60 HT_.out ?_
      refine un_ 30 43 z19_61 HT_.out ?_
      refine un_ 31 44 z19_62 HT_.out ?_
      refine un_ 32 45 z19_63 HT_.out ?_
      refine un_ 33 46 z19_64 HT_.out ?_
      refine un_ 34 47 z19_65 HT_.out ?_
      refine un_ 35 48 z19_66 HT_.out ?_
      refine un_ 36 49 z19_67 HT_.out ?_
      refine un_ 37 50 z19_68 HT_.out ?_
      refine un_ 38 51 z19_69 HT_.out ?_
      refine un_ 39 52 z19_70 HT_.out ?_
      refine un_ 40 53 z19_41 HT_.out ?_
      refine un_ 41 54 z19_42 HT_.out ?_
      refine un_ 42 55 z19_43 HT_.out ?_
      refine un_ 43 56 z19_44 HT_.out ?_
      refine un_ 44 57 z19_45 HT_.out ?_
      refine un_ 45 58 z19_46 HT_.out ?_
      refine pu_ 46 59 z19_47 HT_.out ?_
      refine pu_ 47 60 z19_48 HT_.out ?_
      refine un_ 48 61 z19_49 HT_.out ?_
      refine un_ 49 62 z19_50 HT_.out ?_
      refine un_ 50 63 z19_51 HT_.out ?_
      refine un_ 51 64 z19_52 HT_.out ?_
      refine un_ 52 65 z19_53 HT_.out ?_
      refine un_ 53 66 z19_54 HT_.out ?_
      refine un_ 54 67 z19_55 HT_.out ?_
      refine pu_ 55 68 z19_56 HT_.out ?_
      refine done_ (done_of HT_.out (by kernel_rfl)) ?_
      try go_wp2
      go_meet
      case rel => exact ⟨_, (true), ns_, H', ⟨by have := HK1.out; first | omega | exact Nat.le_refl _⟩, ⟨nb_ BK242.out⟩, ⟨ne_ HB.out⟩⟩
     subst c10
     rw [if_pos rfl] at H
     by_cases c11 : 0 ≤ ((rd_T60 l1 x5_1).f0)
     rotate_left
     ·rw [if_neg c11] at H
      exact absurd H (by simp)
     rw [if_pos c11] at H
     have c11b0 : decide (0 ≤ ((rd_T60 l1 x5_1).f0)) = true := decide_eq_true c11
     clear c11
     by_cases c12 : ((rd_T60 l1 x5_1).f0) < (l0_1.length : Int)
     rotate_left
     ·rw [if_neg c12] at H
      exact absurd H (by simp)
     rw [if_pos c12] at H
     have c12b0 : decide (((rd_T60 l1 x5_1).f0) < (l0_1.length : Int)) = true := decide_eq_true c12
     clear c12
     by_cases c13 : 0 ≤ ((rd_T60 l1 x5_1).f1)
     rotate_left
     ·rw [if_neg c13] at H
      exact absurd H (by simp)
     rw [if_pos c13] at H
     have c13b0 : decide (0 ≤ ((rd_T60 l1 x5_1).f1)) = true := decide_eq_true c13
     clear c13
     by_cases c14 : ((rd_T60 l1 x5_1).f1) < (l0_1.length : Int)
     rotate_left
     ·rw [if_neg c14] at H
      exact absurd H (by simp)
     rw [if_pos c14] at H
     have c14b0 : decide (((rd_T60 l1 x5_1).f1) < (l0_1.length : Int)) = true := decide_eq_true c14
     clear c14
     by_cases c15 : ((rd_T36 l0_1 ((rd_T60 l1 x5_1).f0)).f1) = ((rd_T36 l0_1 ((rd_T60 l1 x5_1).f1)).f0)
     rotate_left
     ·rw [if_neg c15] at H
      have c15b0 : (((rd_T36 l0_1 ((rd_T60 l1 x5_1).f0)).f1) == ((rd_T36 l0_1 ((rd_T60 l1 x5_1).f1)).f0)) = false := beq_eq_false_iff_ne.mpr c15
      have c15b1 : (((rd_T36 l0_1 ((rd_T60 l1 x5_1).f0)).f1) != ((rd_T36 l0_1 ((rd_T60 l1 x5_1).f1)).f0)) = true := bne_iff_ne.mpr c15
      have H' := Aside0.mk H
      clear H
      try go_wp2
      replace BK242 := Aside0.mk (blk_drew BK242.out)
      replace HB := Aside0.mk (below_drew1 HB.out)
      have p243 : 0 ≤ (x5_1 : Int) := of_decide_eq_true nx_
      have q243 : x5_1 < (l1.length : Int) := of_decide_eq_true nx_
      obtain ⟨ad243, e243, hx243_0, hx243_1, hx243_2⟩ := at_T60 HR1.out x5_1 p243 q243
      have hw243_2 := hx243_2
      have hw243_1 := hx243_1
      have hw243_0 := hx243_0
      cases e243
      replace hx243_0 := hb_ HB.out hx243_0
      replace hx243_1 := hb_ HB.out hx243_1
      replace hx243_2 := hb_ HB.out hx243_2
      replace p243 := eq_true p243
      replace q243 := eq_true q243
      have p245 : 0 ≤ (x5_1 : Int) := of_decide_eq_true nx_
      have q245 : x5_1 < (l1.length : Int) := of_decide_eq_true nx_
      obtain ⟨ad245, e245, hx245_0, hx245_1, hx245_2⟩ := at_T60 HR1.out x5_1 p245 q245
      have hw245_2 := hx245_2
      have hw245_1 := hx245_1
      have hw245_0 := hx245_0
      obtain rfl : ad243 = ad245 := (by injection e245)
      replace hx245_0 := hb_ HB.out hx245_0
      replace hx245_1 := hb_ HB.out hx245_1
      replace hx245_2 := hb_ HB.out hx245_2
      replace p245 := eq_true p245
      replace q245 := eq_true q245
      have p247 : 0 ≤ (x5_1 : Int) := of_decide_eq_true nx_
      have q247 : x5_1 < (l1.length : Int) := of_decide_eq_true nx_
      obtain ⟨ad247, e247, hx247_0, hx247_1, hx247_2⟩ := at_T60 HR1.out x5_1 p247 q247
      have hw247_2 := hx247_2
      have hw247_1 := hx247_1
      have hw247_0 := hx247_0
      obtain rfl : ad243 = ad247 := (by injection e247)
      replace hx247_0 := hb_ HB.out hx247_0
      replace hx247_1 := hb_ HB.out hx247_1
      replace hx247_2 := hb_ HB.out hx247_2
      replace p247 := eq_true p247
      replace q247 := eq_true q247
      have p248 : 0 ≤ (((rd_T60 l1 x5_1).f0) : Int) := of_decide_eq_true nx_
      have q248 : ((rd_T60 l1 x5_1).f0) < (l0_1.length : Int) := of_decide_eq_true nx_
      obtain ⟨ad248, e248, hx248_0, hx248_1, hx248_2, hx248_3, hx248_4⟩ := at_T36 HR0_1.out ((rd_T60 l1 x5_1).f0) p248 q248
      have hw248_4 := hx248_4
      have hw248_3 := hx248_3
      have hw248_2 := hx248_2
      have hw248_1 := hx248_1
      have hw248_0 := hx248_0
      cases e248
      replace hx248_0 := hb_ HB.out hx248_0
      replace hx248_1 := hb_ HB.out hx248_1
      replace hx248_2 := hb_ HB.out hx248_2
      replace hx248_3 := hb_ HB.out hx248_3
      replace hx248_4 := hb_ HB.out hx248_4
      replace p248 := eq_true p248
      replace q248 := eq_true q248
      have p249 : 0 ≤ (x5_1 : Int) := of_decide_eq_true nx_
      have q249 : x5_1 < (l1.length : Int) := of_decide_eq_true nx_
      obtain ⟨ad249, e249, hx249_0, hx249_1, hx249_2⟩ := at_T60 HR1.out x5_1 p249 q249
      have hw249_2 := hx249_2
      have hw249_1 := hx249_1
      have hw249_0 := hx249_0
      obtain rfl : ad243 = ad249 := (by injection e249)
      replace hx249_0 := hb_ HB.out hx249_0
      replace hx249_1 := hb_ HB.out hx249_1
      replace hx249_2 := hb_ HB.out hx249_2
      replace p249 := eq_true p249
      replace q249 := eq_true q249
      have p250 : 0 ≤ (((rd_T60 l1 x5_1).f1) : Int) := of_decide_eq_true nx_
      have q250 : ((rd_T60 l1 x5_1).f1) < (l0_1.length : Int) := of_decide_eq_true nx_
      obtain ⟨ad250, e250, hx250_0, hx250_1, hx250_2, hx250_3, hx250_4⟩ := at_T36 HR0_1.out ((rd_T60 l1 x5_1).f1) p250 q250
      have hw250_4 := hx250_4
      have hw250_3 := hx250_3
      have hw250_2 := hx250_2
      have hw250_1 := hx250_1
      have hw250_0 := hx250_0
      obtain rfl : ad248 = ad250 := (by injection e250)
      replace hx250_0 := hb_ HB.out hx250_0
      replace hx250_1 := hb_ HB.out hx250_1
      replace hx250_2 := hb_ HB.out hx250_2
      replace hx250_3 := hb_ HB.out hx250_3
      replace hx250_4 := hb_ HB.out hx250_4
      replace p250 := eq_true p250
      replace q250 := eq_true q250
      refine start_ (n := 56) (S := fun w' => w'.cell? ⟨gb242, 0, none⟩ = some (.int .i64 a0_0) ∧ w'.cell? ⟨gb242, 1, none⟩ = some (.slice (some ad248) l0_1.length c0_1) ∧ w'.cell? (ad243.add ((x5_1).toNat * 3)) = some (.int .i64 ((rd_T60 l1 x5_1).f0)) ∧ w'.cell? ⟨(ad243.add ((x5_1).toNat * 3)).block, (ad243.add ((x5_1).toNat * 3)).off + 1, none⟩ = some (.int .i64 ((rd_T60 l1 x5_1).f1)) ∧ w'.cell? ⟨(ad243.add ((x5_1).toNat * 3)).block, (ad243.add ((x5_1).toNat * 3)).off + 2, none⟩ = some (.int .i64 ((rd_T60 l1 x5_1).f2)) ∧ w'.cell? (ad243.add ((x5_1).toNat * 3)) = some (.int .i64 ((rd_T60 l1 x5_1).f0)) ∧ w'.cell? ⟨(ad243.add ((x5_1).toNat * 3)).block, (ad243.add ((x5_1).toNat * 3)).off + 1, none⟩ = some (.int .i64 ((rd_T60 l1 x5_1).f1)) ∧ w'.cell? ⟨(ad243.add ((x5_1).toNat * 3)).block, (ad243.add ((x5_1).toNat * 3)).off + 2, none⟩ = some (.int .i64 ((rd_T60 l1 x5_1).f2)) ∧ w'.cell? (ad243.add ((x5_1).toNat * 3)) = some (.int .i64 ((rd_T60 l1 x5_1).f0)) ∧ w'.cell? ⟨(ad243.add ((x5_1).toNat * 3)).block, (ad243.add ((x5_1).toNat * 3)).off + 1, none⟩ = some (.int .i64 ((rd_T60 l1 x5_1).f1)) ∧ w'.cell? ⟨(ad243.add ((x5_1).toNat * 3)).block, (ad243.add ((x5_1).toNat * 3)).off + 2, none⟩ = some (.int .i64 ((rd_T60 l1 x5_1).f2)) ∧ w'.cell? (ad248.add ((((rd_T60 l1 x5_1).f0)).toNat * 5)) = some (.int .i64 ((rd_T36 l0_1 ((rd_T60 l1 x5_1).f0)).f0)) ∧ w'.cell? ⟨(ad248.add ((((rd_T60 l1 x5_1).f0)).toNat * 5)).block, (ad248.add ((((rd_T60 l1 x5_1).f0)).toNat * 5)).off + 1, none⟩ = some (.int .i64 ((rd_T36 l0_1 ((rd_T60 l1 x5_1).f0)).f1)) ∧ w'.cell? ⟨(ad248.add ((((rd_T60 l1 x5_1).f0)).toNat * 5)).block, (ad248.add ((((rd_T60 l1 x5_1).f0)).toNat * 5)).off + 2, none⟩ = some (.int .i64 ((rd_T36 l0_1 ((rd_T60 l1 x5_1).f0)).f2)) ∧ w'.cell? ⟨(ad248.add ((((rd_T60 l1 x5_1).f0)).toNat * 5)).block, (ad248.add ((((rd_T60 l1 x5_1).f0)).toNat * 5)).off + 3, none⟩ = some (.int .i64 ((rd_T36 l0_1 ((rd_T60 l1 x5_1).f0)).f3)) ∧ w'.cell? ⟨(ad248.add ((((rd_T60 l1 x5_1).f0)).toNat * 5)).block, (ad248.add ((((rd_T60 l1 x5_1).f0)).toNat * 5)).off + 4, none⟩ = some (.int .i64 ((rd_T36 l0_1 ((rd_T60 l1 x5_1).f0)).f4)) ∧ w'.cell? (ad243.add ((x5_1).toNat * 3)) = some (.int .i64 ((rd_T60 l1 x5_1).f0)) ∧ w'.cell? ⟨(ad243.add ((x5_1).toNat * 3)).block, (ad243.add ((x5_1).toNat * 3)).off + 1, none⟩ = some (.int .i64 ((rd_T60 l1 x5_1).f1)) ∧ w'.cell? ⟨(ad243.add ((x5_1).toNat * 3)).block, (ad243.add ((x5_1).toNat * 3)).off + 2, none⟩ = some (.int .i64 ((rd_T60 l1 x5_1).f2)) ∧ w'.cell? (ad248.add ((((rd_T60 l1 x5_1).f1)).toNat * 5)) = some (.int .i64 ((rd_T36 l0_1 ((rd_T60 l1 x5_1).f1)).f0)) ∧ w'.cell? ⟨(ad248.add ((((rd_T60 l1 x5_1).f1)).toNat * 5)).block, (ad248.add ((((rd_T60 l1 x5_1).f1)).toNat * 5)).off + 1, none⟩ = some (.int .i64 ((rd_T36 l0_1 ((rd_T60 l1 x5_1).f1)).f1)) ∧ w'.cell? ⟨(ad248.add ((((rd_T60 l1 x5_1).f1)).toNat * 5)).block, (ad248.add ((((rd_T60 l1 x5_1).f1)).toNat * 5)).off + 2, none⟩ = some (.int .i64 ((rd_T36 l0_1 ((rd_T60 l1 x5_1).f1)).f2)) ∧ w'.cell? ⟨(ad248.add ((((rd_T60 l1 x5_1).f1)).toNat * 5)).block, (ad248.add ((((rd_T60 l1 x5_1).f1)).toNat * 5)).off + 3, none⟩ = some (.int .i64 ((rd_T36 l0_1 ((rd_T60 l1 x5_1).f1)).f3)) ∧ w'.cell? ⟨(ad248.add ((((rd_T60 l1 x5_1).f1)).toNat * 5)).block, (ad248.add ((((rd_T60 l1 x5_1).f1)).toNat * 5)).off + 4, none⟩ = some (.int .i64 ((rd_T36 l0_1 ((rd_T60 l1 x5_1).f1)).f4))) (ds := []) z19_0 (by kernel_rfl) rfl rfl ⟨ct_ BK242.out 0, ct_ BK242.out 1, ((HB.out.cell (World.block_lt_of_cell? w _ hw243_0)).trans hw243_0), ((HB.out.cell (World.block_lt_of_cell? w _ hw243_1)).trans hw243_1), ((HB.out.cell (World.block_lt_of_cell? w _ hw243_2)).trans hw243_2), ((HB.out.cell (World.block_lt_of_cell? w _ hw245_0)).trans hw245_0), ((HB.out.cell (World.block_lt_of_cell? w _ hw245_1)).trans hw245_1), ((HB.out.cell (World.block_lt_of_cell? w _ hw245_2)).trans hw245_2), ((HB.out.cell (World.block_lt_of_cell? w _ hw247_0)).trans hw247_0), ((HB.out.cell (World.block_lt_of_cell? w _ hw247_1)).trans hw247_1), ((HB.out.cell (World.block_lt_of_cell? w _ hw247_2)).trans hw247_2), ((HB.out.cell (World.block_lt_of_cell? w _ hw248_0)).trans hw248_0), ((HB.out.cell (World.block_lt_of_cell? w _ hw248_1)).trans hw248_1), ((HB.out.cell (World.block_lt_of_cell? w _ hw248_2)).trans hw248_2), ((HB.out.cell (World.block_lt_of_cell? w _ hw248_3)).trans hw248_3), ((HB.out.cell (World.block_lt_of_cell? w _ hw248_4)).trans hw248_4), ((HB.out.cell (World.block_lt_of_cell? w _ hw249_0)).trans hw249_0), ((HB.out.cell (World.block_lt_of_cell? w _ hw249_1)).trans hw249_1), ((HB.out.cell (World.block_lt_of_cell? w _ hw249_2)).trans hw249_2), ((HB.out.cell (World.block_lt_of_cell? w _ hw250_0)).trans hw250_0), ((HB.out.cell (World.block_lt_of_cell? w _ hw250_1)).trans hw250_1), ((HB.out.cell (World.block_lt_of_cell? w _ hw250_2)).trans hw250_2), ((HB.out.cell (World.block_lt_of_cell? w _ hw250_3)).trans hw250_3), ((HB.out.cell (World.block_lt_of_cell? w _ hw250_4)).trans hw250_4)⟩ (fun hHeld => ?_); refine with_tabW spec_l4Ok.tab4 spec_l4Ok.bits4 (fun HT_ HW_ => ?_)
      generalize wr.drew = w18 at BK242 HB hx243_0 hx243_1 hx243_2 hx245_0 hx245_1 hx245_2 hx247_0 hx247_1 hx247_2 hx248_0 hx248_1 hx248_2 hx248_3 hx248_4 hx249_0 hx249_1 hx249_2 hx250_0 hx250_1 hx250_2 hx250_3 hx250_4 hHeld ⊢
      refine pu_ 0 13 z19_1 HT_.out ?_
      refine pu_ 1 14 z19_2 HT_.out ?_
      refine pu_ 2 15 z19_3 HT_.out ?_
      refine pu_ 3 16 z19_4 HT_.out ?_
      refine pu_ 5 18 z19_5 HT_.out ?_
      refine tk_ 4 17 z19_6 HT_.out HW_.out hHeld ?_
      refine tk_ 6 19 z19_7 HT_.out HW_.out hHeld ?_
      refine pu_ 7 20 z19_8 HT_.out ?_
      refine pu_ 8 21 z19_9 HT_.out ?_
      refine one_ (i := 9) (N := some 22) z19_10 rfl rfl (one_of HT_.out (by kernel_rfl)) (by decide) (fun K hK => ?_)
      refine go_ Try.func20 #[.int .i64 ((rd_T60 l1 x5_1).f0), .int .i64 0, .int .i64 (wrap64 ((l0_1.length : Int) - 1))] ?_
      with_reducible refine (spec_l1In.calls ((rd_T60 l1 x5_1).f0) 0 (wrap64 ((l0_1.length : Int) - 1)) true _ A7.out).mono ?_
      rintro e w' ⟨rfl, ⟨nd, rfl⟩⟩
      refine ⟨_, rfl, ?_⟩
      refine hK.out _ _ ⟨ct_ BK242.out 0, ct_ BK242.out 1, ((HB.out.cell (World.block_lt_of_cell? w _ hw243_0)).trans hw243_0), ((HB.out.cell (World.block_lt_of_cell? w _ hw243_1)).trans hw243_1), ((HB.out.cell (World.block_lt_of_cell? w _ hw243_2)).trans hw243_2), ((HB.out.cell (World.block_lt_of_cell? w _ hw245_0)).trans hw245_0), ((HB.out.cell (World.block_lt_of_cell? w _ hw245_1)).trans hw245_1), ((HB.out.cell (World.block_lt_of_cell? w _ hw245_2)).trans hw245_2), ((HB.out.cell (World.block_lt_of_cell? w _ hw247_0)).trans hw247_0), ((HB.out.cell (World.block_lt_of_cell? w _ hw247_1)).trans hw247_1), ((HB.out.cell (World.block_lt_of_cell? w _ hw247_2)).trans hw247_2), ((HB.out.cell (World.block_lt_of_cell? w _ hw248_0)).trans hw248_0), ((HB.out.cell (World.block_lt_of_cell? w _ hw248_1)).trans hw248_1), ((HB.out.cell (World.block_lt_of_cell? w _ hw248_2)).trans hw248_2), ((HB.out.cell (World.block_lt_of_cell? w _ hw248_3)).trans hw248_3), ((HB.out.cell (World.block_lt_of_cell? w _ hw248_4)).trans hw248_4), ((HB.out.cell (World.block_lt_of_cell? w _ hw249_0)).trans hw249_0), ((HB.out.cell (World.block_lt_of_cell? w _ hw249_1)).trans hw249_1), ((HB.out.cell (World.block_lt_of_cell? w _ hw249_2)).trans hw249_2), ((HB.out.cell (World.block_lt_of_cell? w _ hw250_0)).trans hw250_0), ((HB.out.cell (World.block_lt_of_cell? w _ hw250_1)).trans hw250_1), ((HB.out.cell (World.block_lt_of_cell? w _ hw250_2)).trans hw250_2), ((HB.out.cell (World.block_lt_of_cell? w _ hw250_3)).trans hw250_3), ((HB.out.cell (World.block_lt_of_cell? w _ hw250_4)).trans hw250_4)⟩ (fun hHeld => ?_)
      clear hK K
      refine nm1_ (some 22) ?_
      refine pu_ 10 23 z19_11 HT_.out ?_
      refine pu_ 11 24 z19_12 HT_.out ?_
      refine pu_ 12 25 z19_13 HT_.out ?_
      refine pu_ 13 26 z19_14 HT_.out ?_
      refine pu_ 14 27 z19_15 HT_.out ?_
      refine pu_ 15 28 z19_16 HT_.out ?_
      refine pu_ 17 30 z19_17 HT_.out ?_
      refine tk_ 16 29 z19_18 HT_.out HW_.out hHeld ?_
      refine tk_ 18 31 z19_19 HT_.out HW_.out hHeld ?_
      refine pu_ 19 32 z19_20 HT_.out ?_
      refine pu_ 20 33 z19_21 HT_.out ?_
      refine one_ (i := 21) (N := some 34) z19_22 rfl rfl (one_of HT_.out (by kernel_rfl)) (by decide) (fun K hK => ?_)
      refine go_ Try.func20 #[.int .i64 ((rd_T60 l1 x5_1).f1), .int .i64 0, .int .i64 (wrap64 ((l0_1.length : Int) - 1))] ?_
      with_reducible refine (spec_l1In.calls ((rd_T60 l1 x5_1).f1) 0 (wrap64 ((l0_1.length : Int) - 1)) true _ A9.out).mono ?_
      rintro e w' ⟨rfl, ⟨nd, rfl⟩⟩
      refine ⟨_, rfl, ?_⟩
      refine hK.out _ _ ⟨ct_ BK242.out 0, ct_ BK242.out 1, ((HB.out.cell (World.block_lt_of_cell? w _ hw243_0)).trans hw243_0), ((HB.out.cell (World.block_lt_of_cell? w _ hw243_1)).trans hw243_1), ((HB.out.cell (World.block_lt_of_cell? w _ hw243_2)).trans hw243_2), ((HB.out.cell (World.block_lt_of_cell? w _ hw245_0)).trans hw245_0), ((HB.out.cell (World.block_lt_of_cell? w _ hw245_1)).trans hw245_1), ((HB.out.cell (World.block_lt_of_cell? w _ hw245_2)).trans hw245_2), ((HB.out.cell (World.block_lt_of_cell? w _ hw247_0)).trans hw247_0), ((HB.out.cell (World.block_lt_of_cell? w _ hw247_1)).trans hw247_1), ((HB.out.cell (World.block_lt_of_cell? w _ hw247_2)).trans hw247_2), ((HB.out.cell (World.block_lt_of_cell? w _ hw248_0)).trans hw248_0), ((HB.out.cell (World.block_lt_of_cell? w _ hw248_1)).trans hw248_1), ((HB.out.cell (World.block_lt_of_cell? w _ hw248_2)).trans hw248_2), ((HB.out.cell (World.block_lt_of_cell? w _ hw248_3)).trans hw248_3), ((HB.out.cell (World.block_lt_of_cell? w _ hw248_4)).trans hw248_4), ((HB.out.cell (World.block_lt_of_cell? w _ hw249_0)).trans hw249_0), ((HB.out.cell (World.block_lt_of_cell? w _ hw249_1)).trans hw249_1), ((HB.out.cell (World.block_lt_of_cell? w _ hw249_2)).trans hw249_2), ((HB.out.cell (World.block_lt_of_cell? w _ hw250_0)).trans hw250_0), ((HB.out.cell (World.block_lt_of_cell? w _ hw250_1)).trans hw250_1), ((HB.out.cell (World.block_lt_of_cell? w _ hw250_2)).trans hw250_2), ((HB.out.cell (World.block_lt_of_cell? w _ hw250_3)).trans hw250_3), ((HB.out.cell (World.block_lt_of_cell? w _ hw250_4)).trans hw250_4)⟩ (fun hHeld => ?_)
      clear hK K
      refine nm1_ (some 34) ?_
      refine pu_ 22 35 z19_23 HT_.out ?_
      refine pu_ 23 36 z19_24 HT_.out ?_
      refine pu_ 24 37 z19_25 HT_.out ?_
      refine pu_ 25 38 z19_26 HT_.out ?_
      refine pu_ 27 40 z19_27 HT_.out ?_
      refine pu_ 28 41 z19_28 HT_.out ?_
      refine pu_ 29 42 z19_29 HT_.out ?_
      refine pu_ 30 43 z19_30 HT_.out ?_
      refine pu_ 35 48 z19_31 HT_.out ?_
      refine pu_ 37 50 z19_32 HT_.out ?_
      refine pu_ 38 51 z19_33 HT_.out ?_
      refine pu_ 39 52 z19_34 HT_.out ?_
      refine pu_ 40 53 z19_35 HT_.out ?_
      refine tk_ 26 39 z19_36 HT_.out HW_.out hHeld ?_
      refine tk_ 31 44 z19_37 HT_.out HW_.out hHeld ?_
      refine pu_ 32 45 z19_38 HT_.out ?_
      refine pu_ 33 46 z19_39 HT_.out ?_
      refine tk_ 34 47 z19_40 HT_.out HW_.out hHeld ?_
      refine tk_ 36 49 z19_41 HT_.out HW_.out hHeld ?_
      refine tk_ 41 54 z19_42 HT_.out HW_.out hHeld ?_
      refine pu_ 42 55 z19_43 HT_.out ?_
      refine pu_ 43 56 z19_44 HT_.out ?_
      refine tk_ 44 57 z19_45 HT_.out HW_.out hHeld ?_
      refine pu_ 45 58 z19_46 HT_.out ?_
      refine pu_ 46 59 z19_47 HT_.out ?_
      refine pu_ 47 60 z19_48 HT_.out ?_
      refine un_ 48 61 z19_49 HT_.out ?_
      refine un_ 49 62 z19_50 HT_.out ?_
      refine un_ 50 63 z19_51 HT_.out ?_
      refine un_ 51 64 z19_52 HT_.out ?_
      refine un_ 52 65 z19_53 HT_.out ?_
      refine un_ 53 66 z19_54 HT_.out ?_
      refine un_ 54 67 z19_55 HT_.out ?_
      refine pu_ 55 68 z19_56 HT_.out ?_
      refine done_ (done_of HT_.out (by kernel_rfl)) ?_
      try go_wp2
      go_meet
      case rel => exact ⟨_, (true), ns_, H', ⟨by have := HK1.out; first | omega | exact Nat.le_refl _⟩, ⟨nb_ BK242.out⟩, ⟨ne_ HB.out⟩⟩
     rw [if_pos c15] at H
     have c15b0 : (((rd_T36 l0_1 ((rd_T60 l1 x5_1).f0)).f1) == ((rd_T36 l0_1 ((rd_T60 l1 x5_1).f1)).f0)) = true := beq_iff_eq.mpr c15
     have c15b1 : (((rd_T36 l0_1 ((rd_T60 l1 x5_1).f0)).f1) != ((rd_T36 l0_1 ((rd_T60 l1 x5_1).f1)).f0)) = false := bne_eq_false_iff_eq.mpr c15
     clear c15
     replace H := Option.bind_eq_some_iff.mp H
     obtain ⟨t252, A160, H⟩ := H
     replace H : (spec_l4Ok.j1 k1 l1 x5_1 (!t252) a0_0 l0_1) = some r := H
     have A16 := Aside0.mk A160
     clear A160
     have H' := Aside0.mk H
     clear H
     try go_wp2
     replace BK242 := Aside0.mk (blk_drew BK242.out)
     replace HB := Aside0.mk (below_drew1 HB.out)
     have p243 : 0 ≤ (x5_1 : Int) := of_decide_eq_true nx_
     have q243 : x5_1 < (l1.length : Int) := of_decide_eq_true nx_
     obtain ⟨ad243, e243, hx243_0, hx243_1, hx243_2⟩ := at_T60 HR1.out x5_1 p243 q243
     have hw243_2 := hx243_2
     have hw243_1 := hx243_1
     have hw243_0 := hx243_0
     cases e243
     replace hx243_0 := hb_ HB.out hx243_0
     replace hx243_1 := hb_ HB.out hx243_1
     replace hx243_2 := hb_ HB.out hx243_2
     replace p243 := eq_true p243
     replace q243 := eq_true q243
     have p245 : 0 ≤ (x5_1 : Int) := of_decide_eq_true nx_
     have q245 : x5_1 < (l1.length : Int) := of_decide_eq_true nx_
     obtain ⟨ad245, e245, hx245_0, hx245_1, hx245_2⟩ := at_T60 HR1.out x5_1 p245 q245
     have hw245_2 := hx245_2
     have hw245_1 := hx245_1
     have hw245_0 := hx245_0
     obtain rfl : ad243 = ad245 := (by injection e245)
     replace hx245_0 := hb_ HB.out hx245_0
     replace hx245_1 := hb_ HB.out hx245_1
     replace hx245_2 := hb_ HB.out hx245_2
     replace p245 := eq_true p245
     replace q245 := eq_true q245
     have p247 : 0 ≤ (x5_1 : Int) := of_decide_eq_true nx_
     have q247 : x5_1 < (l1.length : Int) := of_decide_eq_true nx_
     obtain ⟨ad247, e247, hx247_0, hx247_1, hx247_2⟩ := at_T60 HR1.out x5_1 p247 q247
     have hw247_2 := hx247_2
     have hw247_1 := hx247_1
     have hw247_0 := hx247_0
     obtain rfl : ad243 = ad247 := (by injection e247)
     replace hx247_0 := hb_ HB.out hx247_0
     replace hx247_1 := hb_ HB.out hx247_1
     replace hx247_2 := hb_ HB.out hx247_2
     replace p247 := eq_true p247
     replace q247 := eq_true q247
     have p248 : 0 ≤ (((rd_T60 l1 x5_1).f0) : Int) := of_decide_eq_true nx_
     have q248 : ((rd_T60 l1 x5_1).f0) < (l0_1.length : Int) := of_decide_eq_true nx_
     obtain ⟨ad248, e248, hx248_0, hx248_1, hx248_2, hx248_3, hx248_4⟩ := at_T36 HR0_1.out ((rd_T60 l1 x5_1).f0) p248 q248
     have hw248_4 := hx248_4
     have hw248_3 := hx248_3
     have hw248_2 := hx248_2
     have hw248_1 := hx248_1
     have hw248_0 := hx248_0
     cases e248
     replace hx248_0 := hb_ HB.out hx248_0
     replace hx248_1 := hb_ HB.out hx248_1
     replace hx248_2 := hb_ HB.out hx248_2
     replace hx248_3 := hb_ HB.out hx248_3
     replace hx248_4 := hb_ HB.out hx248_4
     replace p248 := eq_true p248
     replace q248 := eq_true q248
     have p249 : 0 ≤ (x5_1 : Int) := of_decide_eq_true nx_
     have q249 : x5_1 < (l1.length : Int) := of_decide_eq_true nx_
     obtain ⟨ad249, e249, hx249_0, hx249_1, hx249_2⟩ := at_T60 HR1.out x5_1 p249 q249
     have hw249_2 := hx249_2
     have hw249_1 := hx249_1
     have hw249_0 := hx249_0
     obtain rfl : ad243 = ad249 := (by injection e249)
     replace hx249_0 := hb_ HB.out hx249_0
     replace hx249_1 := hb_ HB.out hx249_1
     replace hx249_2 := hb_ HB.out hx249_2
     replace p249 := eq_true p249
     replace q249 := eq_true q249
     have p250 : 0 ≤ (((rd_T60 l1 x5_1).f1) : Int) := of_decide_eq_true nx_
     have q250 : ((rd_T60 l1 x5_1).f1) < (l0_1.length : Int) := of_decide_eq_true nx_
     obtain ⟨ad250, e250, hx250_0, hx250_1, hx250_2, hx250_3, hx250_4⟩ := at_T36 HR0_1.out ((rd_T60 l1 x5_1).f1) p250 q250
     have hw250_4 := hx250_4
     have hw250_3 := hx250_3
     have hw250_2 := hx250_2
     have hw250_1 := hx250_1
     have hw250_0 := hx250_0
     obtain rfl : ad248 = ad250 := (by injection e250)
     replace hx250_0 := hb_ HB.out hx250_0
     replace hx250_1 := hb_ HB.out hx250_1
     replace hx250_2 := hb_ HB.out hx250_2
     replace hx250_3 := hb_ HB.out hx250_3
     replace hx250_4 := hb_ HB.out hx250_4
     replace p250 := eq_true p250
     replace q250 := eq_true q250
     have p251 : 0 ≤ (x5_1 : Int) := of_decide_eq_true nx_
     have q251 : x5_1 < (l1.length : Int) := of_decide_eq_true nx_
     obtain ⟨ad251, e251, hx251_0, hx251_1, hx251_2⟩ := at_T60 HR1.out x5_1 p251 q251
     have hw251_2 := hx251_2
     have hw251_1 := hx251_1
     have hw251_0 := hx251_0
     obtain rfl : ad243 = ad251 := (by injection e251)
     replace hx251_0 := hb_ HB.out hx251_0
     replace hx251_1 := hb_ HB.out hx251_1
     replace hx251_2 := hb_ HB.out hx251_2
     replace p251 := eq_true p251
     replace q251 := eq_true q251
     refine start_ (n := 56) (S := fun w' => w'.cell? ⟨gb242, 0, none⟩ = some (.int .i64 a0_0) ∧ w'.cell? ⟨gb242, 1, none⟩ = some (.slice (some ad248) l0_1.length c0_1) ∧ w'.cell? (ad243.add ((x5_1).toNat * 3)) = some (.int .i64 ((rd_T60 l1 x5_1).f0)) ∧ w'.cell? ⟨(ad243.add ((x5_1).toNat * 3)).block, (ad243.add ((x5_1).toNat * 3)).off + 1, none⟩ = some (.int .i64 ((rd_T60 l1 x5_1).f1)) ∧ w'.cell? ⟨(ad243.add ((x5_1).toNat * 3)).block, (ad243.add ((x5_1).toNat * 3)).off + 2, none⟩ = some (.int .i64 ((rd_T60 l1 x5_1).f2)) ∧ w'.cell? (ad243.add ((x5_1).toNat * 3)) = some (.int .i64 ((rd_T60 l1 x5_1).f0)) ∧ w'.cell? ⟨(ad243.add ((x5_1).toNat * 3)).block, (ad243.add ((x5_1).toNat * 3)).off + 1, none⟩ = some (.int .i64 ((rd_T60 l1 x5_1).f1)) ∧ w'.cell? ⟨(ad243.add ((x5_1).toNat * 3)).block, (ad243.add ((x5_1).toNat * 3)).off + 2, none⟩ = some (.int .i64 ((rd_T60 l1 x5_1).f2)) ∧ w'.cell? (ad243.add ((x5_1).toNat * 3)) = some (.int .i64 ((rd_T60 l1 x5_1).f0)) ∧ w'.cell? ⟨(ad243.add ((x5_1).toNat * 3)).block, (ad243.add ((x5_1).toNat * 3)).off + 1, none⟩ = some (.int .i64 ((rd_T60 l1 x5_1).f1)) ∧ w'.cell? ⟨(ad243.add ((x5_1).toNat * 3)).block, (ad243.add ((x5_1).toNat * 3)).off + 2, none⟩ = some (.int .i64 ((rd_T60 l1 x5_1).f2)) ∧ w'.cell? (ad248.add ((((rd_T60 l1 x5_1).f0)).toNat * 5)) = some (.int .i64 ((rd_T36 l0_1 ((rd_T60 l1 x5_1).f0)).f0)) ∧ w'.cell? ⟨(ad248.add ((((rd_T60 l1 x5_1).f0)).toNat * 5)).block, (ad248.add ((((rd_T60 l1 x5_1).f0)).toNat * 5)).off + 1, none⟩ = some (.int .i64 ((rd_T36 l0_1 ((rd_T60 l1 x5_1).f0)).f1)) ∧ w'.cell? ⟨(ad248.add ((((rd_T60 l1 x5_1).f0)).toNat * 5)).block, (ad248.add ((((rd_T60 l1 x5_1).f0)).toNat * 5)).off + 2, none⟩ = some (.int .i64 ((rd_T36 l0_1 ((rd_T60 l1 x5_1).f0)).f2)) ∧ w'.cell? ⟨(ad248.add ((((rd_T60 l1 x5_1).f0)).toNat * 5)).block, (ad248.add ((((rd_T60 l1 x5_1).f0)).toNat * 5)).off + 3, none⟩ = some (.int .i64 ((rd_T36 l0_1 ((rd_T60 l1 x5_1).f0)).f3)) ∧ w'.cell? ⟨(ad248.add ((((rd_T60 l1 x5_1).f0)).toNat * 5)).block, (ad248.add ((((rd_T60 l1 x5_1).f0)).toNat * 5)).off + 4, none⟩ = some (.int .i64 ((rd_T36 l0_1 ((rd_T60 l1 x5_1).f0)).f4)) ∧ w'.cell? (ad243.add ((x5_1).toNat * 3)) = some (.int .i64 ((rd_T60 l1 x5_1).f0)) ∧ w'.cell? ⟨(ad243.add ((x5_1).toNat * 3)).block, (ad243.add ((x5_1).toNat * 3)).off + 1, none⟩ = some (.int .i64 ((rd_T60 l1 x5_1).f1)) ∧ w'.cell? ⟨(ad243.add ((x5_1).toNat * 3)).block, (ad243.add ((x5_1).toNat * 3)).off + 2, none⟩ = some (.int .i64 ((rd_T60 l1 x5_1).f2)) ∧ w'.cell? (ad248.add ((((rd_T60 l1 x5_1).f1)).toNat * 5)) = some (.int .i64 ((rd_T36 l0_1 ((rd_T60 l1 x5_1).f1)).f0)) ∧ w'.cell? ⟨(ad248.add ((((rd_T60 l1 x5_1).f1)).toNat * 5)).block, (ad248.add ((((rd_T60 l1 x5_1).f1)).toNat * 5)).off + 1, none⟩ = some (.int .i64 ((rd_T36 l0_1 ((rd_T60 l1 x5_1).f1)).f1)) ∧ w'.cell? ⟨(ad248.add ((((rd_T60 l1 x5_1).f1)).toNat * 5)).block, (ad248.add ((((rd_T60 l1 x5_1).f1)).toNat * 5)).off + 2, none⟩ = some (.int .i64 ((rd_T36 l0_1 ((rd_T60 l1 x5_1).f1)).f2)) ∧ w'.cell? ⟨(ad248.add ((((rd_T60 l1 x5_1).f1)).toNat * 5)).block, (ad248.add ((((rd_T60 l1 x5_1).f1)).toNat * 5)).off + 3, none⟩ = some (.int .i64 ((rd_T36 l0_1 ((rd_T60 l1 x5_1).f1)).f3)) ∧ w'.cell? ⟨(ad248.add ((((rd_T60 l1 x5_1).f1)).toNat * 5)).block, (ad248.add ((((rd_T60 l1 x5_1).f1)).toNat * 5)).off + 4, none⟩ = some (.int .i64 ((rd_T36 l0_1 ((rd_T60 l1 x5_1).f1)).f4)) ∧ w'.cell? (ad243.add ((x5_1).toNat * 3)) = some (.int .i64 ((rd_T60 l1 x5_1).f0)) ∧ w'.cell? ⟨(ad243.add ((x5_1).toNat * 3)).block, (ad243.add ((x5_1).toNat * 3)).off + 1, none⟩ = some (.int .i64 ((rd_T60 l1 x5_1).f1)) ∧ w'.cell? ⟨(ad243.add ((x5_1).toNat * 3)).block, (ad243.add ((x5_1).toNat * 3)).off + 2, none⟩ = some (.int .i64 ((rd_T60 l1 x5_1).f2))) (ds := []) z19_0 (by kernel_rfl) rfl rfl ⟨ct_ BK242.out 0, ct_ BK242.out 1, ((HB.out.cell (World.block_lt_of_cell? w _ hw243_0)).trans hw243_0), ((HB.out.cell (World.block_lt_of_cell? w _ hw243_1)).trans hw243_1), ((HB.out.cell (World.block_lt_of_cell? w _ hw243_2)).trans hw243_2), ((HB.out.cell (World.block_lt_of_cell? w _ hw245_0)).trans hw245_0), ((HB.out.cell (World.block_lt_of_cell? w _ hw245_1)).trans hw245_1), ((HB.out.cell (World.block_lt_of_cell? w _ hw245_2)).trans hw245_2), ((HB.out.cell (World.block_lt_of_cell? w _ hw247_0)).trans hw247_0), ((HB.out.cell (World.block_lt_of_cell? w _ hw247_1)).trans hw247_1), ((HB.out.cell (World.block_lt_of_cell? w _ hw247_2)).trans hw247_2), ((HB.out.cell (World.block_lt_of_cell? w _ hw248_0)).trans hw248_0), ((HB.out.cell (World.block_lt_of_cell? w _ hw248_1)).trans hw248_1), ((HB.out.cell (World.block_lt_of_cell? w _ hw248_2)).trans hw248_2), ((HB.out.cell (World.block_lt_of_cell? w _ hw248_3)).trans hw248_3), ((HB.out.cell (World.block_lt_of_cell? w _ hw248_4)).trans hw248_4), ((HB.out.cell (World.block_lt_of_cell? w _ hw249_0)).trans hw249_0), ((HB.out.cell (World.block_lt_of_cell? w _ hw249_1)).trans hw249_1), ((HB.out.cell (World.block_lt_of_cell? w _ hw249_2)).trans hw249_2), ((HB.out.cell (World.block_lt_of_cell? w _ hw250_0)).trans hw250_0), ((HB.out.cell (World.block_lt_of_cell? w _ hw250_1)).trans hw250_1), ((HB.out.cell (World.block_lt_of_cell? w _ hw250_2)).trans hw250_2), ((HB.out.cell (World.block_lt_of_cell? w _ hw250_3)).trans hw250_3), ((HB.out.cell (World.block_lt_of_cell? w _ hw250_4)).trans hw250_4), ((HB.out.cell (World.block_lt_of_cell? w _ hw251_0)).trans hw251_0), ((HB.out.cell (World.block_lt_of_cell? w _ hw251_1)).trans hw251_1), ((HB.out.cell (World.block_lt_of_cell? w _ hw251_2)).trans hw251_2)⟩ (fun hHeld => ?_); refine with_tabW spec_l4Ok.tab4 spec_l4Ok.bits4 (fun HT_ HW_ => ?_)
     generalize wr.drew = w17 at BK242 HB hx243_0 hx243_1 hx243_2 hx245_0 hx245_1 hx245_2 hx247_0 hx247_1 hx247_2 hx248_0 hx248_1 hx248_2 hx248_3 hx248_4 hx249_0 hx249_1 hx249_2 hx250_0 hx250_1 hx250_2 hx250_3 hx250_4 hx251_0 hx251_1 hx251_2 hHeld ⊢
     refine pu_ 0 13 z19_1 HT_.out ?_
     refine pu_ 1 14 z19_2 HT_.out ?_
     refine pu_ 2 15 z19_3 HT_.out ?_
     refine pu_ 3 16 z19_4 HT_.out ?_
     refine pu_ 5 18 z19_5 HT_.out ?_
     refine tk_ 4 17 z19_6 HT_.out HW_.out hHeld ?_
     refine tk_ 6 19 z19_7 HT_.out HW_.out hHeld ?_
     refine pu_ 7 20 z19_8 HT_.out ?_
     refine pu_ 8 21 z19_9 HT_.out ?_
     refine one_ (i := 9) (N := some 22) z19_10 rfl rfl (one_of HT_.out (by kernel_rfl)) (by decide) (fun K hK => ?_)
     refine go_ Try.func20 #[.int .i64 ((rd_T60 l1 x5_1).f0), .int .i64 0, .int .i64 (wrap64 ((l0_1.length : Int) - 1))] ?_
     with_reducible refine (spec_l1In.calls ((rd_T60 l1 x5_1).f0) 0 (wrap64 ((l0_1.length : Int) - 1)) true _ A7.out).mono ?_
     rintro e w' ⟨rfl, ⟨nd, rfl⟩⟩
     refine ⟨_, rfl, ?_⟩
     refine hK.out _ _ ⟨ct_ BK242.out 0, ct_ BK242.out 1, ((HB.out.cell (World.block_lt_of_cell? w _ hw243_0)).trans hw243_0), ((HB.out.cell (World.block_lt_of_cell? w _ hw243_1)).trans hw243_1), ((HB.out.cell (World.block_lt_of_cell? w _ hw243_2)).trans hw243_2), ((HB.out.cell (World.block_lt_of_cell? w _ hw245_0)).trans hw245_0), ((HB.out.cell (World.block_lt_of_cell? w _ hw245_1)).trans hw245_1), ((HB.out.cell (World.block_lt_of_cell? w _ hw245_2)).trans hw245_2), ((HB.out.cell (World.block_lt_of_cell? w _ hw247_0)).trans hw247_0), ((HB.out.cell (World.block_lt_of_cell? w _ hw247_1)).trans hw247_1), ((HB.out.cell (World.block_lt_of_cell? w _ hw247_2)).trans hw247_2), ((HB.out.cell (World.block_lt_of_cell? w _ hw248_0)).trans hw248_0), ((HB.out.cell (World.block_lt_of_cell? w _ hw248_1)).trans hw248_1), ((HB.out.cell (World.block_lt_of_cell? w _ hw248_2)).trans hw248_2), ((HB.out.cell (World.block_lt_of_cell? w _ hw248_3)).trans hw248_3), ((HB.out.cell (World.block_lt_of_cell? w _ hw248_4)).trans hw248_4), ((HB.out.cell (World.block_lt_of_cell? w _ hw249_0)).trans hw249_0), ((HB.out.cell (World.block_lt_of_cell? w _ hw249_1)).trans hw249_1), ((HB.out.cell (World.block_lt_of_cell? w _ hw249_2)).trans hw249_2), ((HB.out.cell (World.block_lt_of_cell? w _ hw250_0)).trans hw250_0), ((HB.out.cell (World.block_lt_of_cell? w _ hw250_1)).trans hw250_1), ((HB.out.cell (World.block_lt_of_cell? w _ hw250_2)).trans hw250_2), ((HB.out.cell (World.block_lt_of_cell? w _ hw250_3)).trans hw250_3), ((HB.out.cell (World.block_lt_of_cell? w _ hw250_4)).trans hw250_4), ((HB.out.cell (World.block_lt_of_cell? w _ hw251_0)).trans hw251_0), ((HB.out.cell (World.block_lt_of_cell? w _ hw251_1)).trans hw251_1), ((HB.out.cell (World.block_lt_of_cell? w _ hw251_2)).trans hw251_2)⟩ (fun hHeld => ?_)
     clear hK K
     refine nm1_ (some 22) ?_
     refine pu_ 10 23 z19_11 HT_.out ?_
     refine pu_ 11 24 z19_12 HT_.out ?_
     refine pu_ 12 25 z19_13 HT_.out ?_
     refine pu_ 13 26 z19_14 HT_.out ?_
     refine pu_ 14 27 z19_15 HT_.out ?_
     refine pu_ 15 28 z19_16 HT_.out ?_
     refine pu_ 17 30 z19_17 HT_.out ?_
     refine tk_ 16 29 z19_18 HT_.out HW_.out hHeld ?_
     refine tk_ 18 31 z19_19 HT_.out HW_.out hHeld ?_
     refine pu_ 19 32 z19_20 HT_.out ?_
     refine pu_ 20 33 z19_21 HT_.out ?_
     refine one_ (i := 21) (N := some 34) z19_22 rfl rfl (one_of HT_.out (by kernel_rfl)) (by decide) (fun K hK => ?_)
     refine go_ Try.func20 #[.int .i64 ((rd_T60 l1 x5_1).f1), .int .i64 0, .int .i64 (wrap64 ((l0_1.length : Int) - 1))] ?_
     with_reducible refine (spec_l1In.calls ((rd_T60 l1 x5_1).f1) 0 (wrap64 ((l0_1.length : Int) - 1)) true _ A9.out).mono ?_
     rintro e w' ⟨rfl, ⟨nd, rfl⟩⟩
     refine ⟨_, rfl, ?_⟩
     refine hK.out _ _ ⟨ct_ BK242.out 0, ct_ BK242.out 1, ((HB.out.cell (World.block_lt_of_cell? w _ hw243_0)).trans hw243_0), ((HB.out.cell (World.block_lt_of_cell? w _ hw243_1)).trans hw243_1), ((HB.out.cell (World.block_lt_of_cell? w _ hw243_2)).trans hw243_2), ((HB.out.cell (World.block_lt_of_cell? w _ hw245_0)).trans hw245_0), ((HB.out.cell (World.block_lt_of_cell? w _ hw245_1)).trans hw245_1), ((HB.out.cell (World.block_lt_of_cell? w _ hw245_2)).trans hw245_2), ((HB.out.cell (World.block_lt_of_cell? w _ hw247_0)).trans hw247_0), ((HB.out.cell (World.block_lt_of_cell? w _ hw247_1)).trans hw247_1), ((HB.out.cell (World.block_lt_of_cell? w _ hw247_2)).trans hw247_2), ((HB.out.cell (World.block_lt_of_cell? w _ hw248_0)).trans hw248_0), ((HB.out.cell (World.block_lt_of_cell? w _ hw248_1)).trans hw248_1), ((HB.out.cell (World.block_lt_of_cell? w _ hw248_2)).trans hw248_2), ((HB.out.cell (World.block_lt_of_cell? w _ hw248_3)).trans hw248_3), ((HB.out.cell (World.block_lt_of_cell? w _ hw248_4)).trans hw248_4), ((HB.out.cell (World.block_lt_of_cell? w _ hw249_0)).trans hw249_0), ((HB.out.cell (World.block_lt_of_cell? w _ hw249_1)).trans hw249_1), ((HB.out.cell (World.block_lt_of_cell? w _ hw249_2)).trans hw249_2), ((HB.out.cell (World.block_lt_of_cell? w _ hw250_0)).trans hw250_0), ((HB.out.cell (World.block_lt_of_cell? w _ hw250_1)).trans hw250_1), ((HB.out.cell (World.block_lt_of_cell? w _ hw250_2)).trans hw250_2), ((HB.out.cell (World.block_lt_of_cell? w _ hw250_3)).trans hw250_3), ((HB.out.cell (World.block_lt_of_cell? w _ hw250_4)).trans hw250_4), ((HB.out.cell (World.block_lt_of_cell? w _ hw251_0)).trans hw251_0), ((HB.out.cell (World.block_lt_of_cell? w _ hw251_1)).trans hw251_1), ((HB.out.cell (World.block_lt_of_cell? w _ hw251_2)).trans hw251_2)⟩ (fun hHeld => ?_)
     clear hK K
     refine nm1_ (some 34) ?_
     refine pu_ 22 35 z19_23 HT_.out ?_
     refine pu_ 23 36 z19_24 HT_.out ?_
     refine pu_ 24 37 z19_25 HT_.out ?_
     refine pu_ 25 38 z19_26 HT_.out ?_
     refine pu_ 27 40 z19_27 HT_.out ?_
     refine pu_ 28 41 z19_28 HT_.out ?_
     refine pu_ 29 42 z19_29 HT_.out ?_
     refine pu_ 30 43 z19_30 HT_.out ?_
     refine pu_ 35 48 z19_31 HT_.out ?_
     refine pu_ 37 50 z19_32 HT_.out ?_
     refine pu_ 38 51 z19_33 HT_.out ?_
     refine pu_ 39 52 z19_34 HT_.out ?_
     refine pu_ 40 53 z19_35 HT_.out ?_
     refine tk_ 26 39 z19_36 HT_.out HW_.out hHeld ?_
     refine tk_ 31 44 z19_37 HT_.out HW_.out hHeld ?_
     refine pu_ 32 45 z19_38 HT_.out ?_
     refine pu_ 33 46 z19_39 HT_.out ?_
     refine tk_ 34 47 z19_40 HT_.out HW_.out hHeld ?_
     refine tk_ 36 49 z19_41 HT_.out HW_.out hHeld ?_
     refine tk_ 41 54 z19_42 HT_.out HW_.out hHeld ?_
     refine pu_ 42 55 z19_43 HT_.out ?_
     refine pu_ 43 56 z19_44 HT_.out ?_
     refine tk_ 44 57 z19_45 HT_.out HW_.out hHeld ?_
     refine pu_ 45 58 z19_46 HT_.out ?_
     refine pu_ 46 59 z19_47 HT_.out ?_
     refine pu_ 47 60 z19_48 HT_.out ?_
     refine pu_ 48 61 z19_49 HT_.out ?_
     refine pu_ 49 62 z19_50 HT_.out ?_
     refine pu_ 50 63 z19_51 HT_.out ?_
     refine pu_ 51 64 z19_52 HT_.out ?_
     refine tk_ 52 65 z19_53 HT_.out HW_.out hHeld ?_
     refine one_ (i := 53) (N := some 66) z19_54 rfl rfl (one_of HT_.out (by kernel_rfl)) (by decide) (fun K hK => ?_)
     refine go_ Try.func20 #[.int .i64 ((rd_T60 l1 x5_1).f2), .int .i64 (-1), .int .i64 99] ?_
     with_reducible refine (spec_l1In.calls ((rd_T60 l1 x5_1).f2) (-1) 99 t252 _ A16.out).mono ?_
     rintro e w' ⟨rfl, ⟨nd, rfl⟩⟩
     refine ⟨_, rfl, ?_⟩
     refine hK.out _ _ ⟨ct_ BK242.out 0, ct_ BK242.out 1, ((HB.out.cell (World.block_lt_of_cell? w _ hw243_0)).trans hw243_0), ((HB.out.cell (World.block_lt_of_cell? w _ hw243_1)).trans hw243_1), ((HB.out.cell (World.block_lt_of_cell? w _ hw243_2)).trans hw243_2), ((HB.out.cell (World.block_lt_of_cell? w _ hw245_0)).trans hw245_0), ((HB.out.cell (World.block_lt_of_cell? w _ hw245_1)).trans hw245_1), ((HB.out.cell (World.block_lt_of_cell? w _ hw245_2)).trans hw245_2), ((HB.out.cell (World.block_lt_of_cell? w _ hw247_0)).trans hw247_0), ((HB.out.cell (World.block_lt_of_cell? w _ hw247_1)).trans hw247_1), ((HB.out.cell (World.block_lt_of_cell? w _ hw247_2)).trans hw247_2), ((HB.out.cell (World.block_lt_of_cell? w _ hw248_0)).trans hw248_0), ((HB.out.cell (World.block_lt_of_cell? w _ hw248_1)).trans hw248_1), ((HB.out.cell (World.block_lt_of_cell? w _ hw248_2)).trans hw248_2), ((HB.out.cell (World.block_lt_of_cell? w _ hw248_3)).trans hw248_3), ((HB.out.cell (World.block_lt_of_cell? w _ hw248_4)).trans hw248_4), ((HB.out.cell (World.block_lt_of_cell? w _ hw249_0)).trans hw249_0), ((HB.out.cell (World.block_lt_of_cell? w _ hw249_1)).trans hw249_1), ((HB.out.cell (World.block_lt_of_cell? w _ hw249_2)).trans hw249_2), ((HB.out.cell (World.block_lt_of_cell? w _ hw250_0)).trans hw250_0), ((HB.out.cell (World.block_lt_of_cell? w _ hw250_1)).trans hw250_1), ((HB.out.cell (World.block_lt_of_cell? w _ hw250_2)).trans hw250_2), ((HB.out.cell (World.block_lt_of_cell? w _ hw250_3)).trans hw250_3), ((HB.out.cell (World.block_lt_of_cell? w _ hw250_4)).trans hw250_4), ((HB.out.cell (World.block_lt_of_cell? w _ hw251_0)).trans hw251_0), ((HB.out.cell (World.block_lt_of_cell? w _ hw251_1)).trans hw251_1), ((HB.out.cell (World.block_lt_of_cell? w _ hw251_2)).trans hw251_2)⟩ (fun hHeld => ?_)
     clear hK K
     refine nm1_ (some 66) ?_
     refine pu_ 54 67 z19_55 HT_.out ?_
     refine pu_ 55 68 z19_56 HT_.out ?_
     refine done_ (done_of HT_.out (by kernel_rfl)) ?_
     try go_wp2
     go_meet
     case rel => exact ⟨_, (!t252), ns_, H', ⟨by have := HK1.out; first | omega | exact Nat.le_refl _⟩, ⟨nb_ BK242.out⟩, ⟨ne_ HB.out⟩⟩
    case rest =>
     clear HC5
     obtain ⟨kq, x68_4, rfl, HA, HJ4, BK242, HB⟩ := hcut
     cases kq with
     | zero => exact absurd HA.out (by simp [spec_l4Ok.j1])
     | succ kj4 =>
      have H := HA.out
      clear HA
      simp only [spec_l4Ok.j1] at H
      by_cases c21 : x68_4 = true
      ·subst c21
       have H1 : (some false) = some r := by rw [if_pos rfl] at H; exact H
       clear H
       have H := H1
       clear H1
       obtain rfl := Option.some.inj H
       go_wp2
       go_ret
       exact ⟨nw_, ne_ HB.out⟩
      replace c21 := Bool.eq_false_iff.mpr c21
      subst c21
      have H1 : (spec_l4Ok.l1 kj4 l1 x5_1 0 a0_0 l0_1) = some r := by rw [if_neg (show ¬ (false = true) by decide)] at H; exact H
      clear H
      have H := H1
      clear H1
      have H' := Aside0.mk H
      clear H
      go_wp2
      go_loopg [6] kj4 (fun kq v6 w' => ∃ (x6_3 : Int), v6 = .int .i64 x6_3 ∧ Aside0 (spec_l4Ok.l1 kq l1 x5_1 x6_3 a0_0 l0_1 = some r) ∧ Aside0 (kq ≤ kj4) ∧ Aside0 (w'.heap[gb242]? = some (.cells #[.int .i64 a0_0, (.slice A0_1 l0_1.length c0_1)] 25 (0, 0))) ∧ Aside0 (Below w.heap.size w w'))
      case atStart => exact ⟨(0), ns_, H', ⟨Nat.le_refl _⟩, ⟨nb_ BK242.out⟩, ⟨ne_ HB.out⟩⟩
      case round =>
       clear H'
       try clear c21
       obtain ⟨x6_3, rfl, HA, HK3, BK242, HB⟩ := hrel
       cases gk with
       | zero => exact absurd HA.out (by simp [spec_l4Ok.l1])
       | succ k3 =>
        have H := HA.out
        clear HA
        simp only [spec_l4Ok.l1] at H
        by_cases c22 : x6_3 < x5_1
        rotate_left
        ·rw [if_neg c22] at H
         have c22b0 : decide (x6_3 < x5_1) = false := decide_eq_false c22
         clear c22
         have H' := Aside0.mk H
         clear H
         go_wp2
         go_roundg k3
         case measure => have := HK1.out; have := HJ4.out; have := HK3.out; omega
         case rel => exact ⟨(wrap64 (x5_1 + 1)), ns_, H', ⟨by have := HK1.out; have := HJ4.out; have := HK3.out; omega⟩, ⟨nb_ BK242.out⟩, ⟨ne_ HB.out⟩⟩
        rw [if_pos c22] at H
        have c22b0 : decide (x6_3 < x5_1) = true := decide_eq_true c22
        clear c22
        by_cases c23 : 0 ≤ x6_3
        rotate_left
        ·rw [if_neg c23] at H
         exact absurd H (by simp)
        rw [if_pos c23] at H
        have c23b0 : decide (0 ≤ x6_3) = true := decide_eq_true c23
        clear c23
        by_cases c24 : x6_3 < (l1.length : Int)
        rotate_left
        ·rw [if_neg c24] at H
         exact absurd H (by simp)
        rw [if_pos c24] at H
        have c24b0 : decide (x6_3 < (l1.length : Int)) = true := decide_eq_true c24
        clear c24
        by_cases c25 : 0 ≤ x5_1
        rotate_left
        ·rw [if_neg c25] at H
         exact absurd H (by simp)
        rw [if_pos c25] at H
        have c25b0 : decide (0 ≤ x5_1) = true := decide_eq_true c25
        clear c25
        by_cases c26 : x5_1 < (l1.length : Int)
        rotate_left
        ·rw [if_neg c26] at H
         exact absurd H (by simp)
        rw [if_pos c26] at H
        have c26b0 : decide (x5_1 < (l1.length : Int)) = true := decide_eq_true c26
        clear c26
        by_cases c27 : ((rd_T60 l1 x6_3).f0) = ((rd_T60 l1 x5_1).f0)
        rotate_left
        ·rw [if_neg c27] at H
         have c27b0 : (((rd_T60 l1 x6_3).f0) == ((rd_T60 l1 x5_1).f0)) = false := beq_eq_false_iff_ne.mpr c27
         have c27b1 : (((rd_T60 l1 x6_3).f0) != ((rd_T60 l1 x5_1).f0)) = true := bne_iff_ne.mpr c27
         have H' := Aside0.mk H
         clear H
         try go_wp2
         replace BK242 := Aside0.mk (blk_drew BK242.out)
         replace HB := Aside0.mk (below_drew1 HB.out)
         have p253 : 0 ≤ (x6_3 : Int) := of_decide_eq_true nx_
         have q253 : x6_3 < (l1.length : Int) := of_decide_eq_true nx_
         obtain ⟨ad253, e253, hx253_0, hx253_1, hx253_2⟩ := at_T60 HR1.out x6_3 p253 q253
         have hw253_2 := hx253_2
         have hw253_1 := hx253_1
         have hw253_0 := hx253_0
         cases e253
         replace hx253_0 := hb_ HB.out hx253_0
         replace hx253_1 := hb_ HB.out hx253_1
         replace hx253_2 := hb_ HB.out hx253_2
         replace p253 := eq_true p253
         replace q253 := eq_true q253
         have p254 : 0 ≤ (x5_1 : Int) := of_decide_eq_true nx_
         have q254 : x5_1 < (l1.length : Int) := of_decide_eq_true nx_
         obtain ⟨ad254, e254, hx254_0, hx254_1, hx254_2⟩ := at_T60 HR1.out x5_1 p254 q254
         have hw254_2 := hx254_2
         have hw254_1 := hx254_1
         have hw254_0 := hx254_0
         obtain rfl : ad253 = ad254 := (by injection e254)
         replace hx254_0 := hb_ HB.out hx254_0
         replace hx254_1 := hb_ HB.out hx254_1
         replace hx254_2 := hb_ HB.out hx254_2
         replace p254 := eq_true p254
         replace q254 := eq_true q254
         refine start_ (n := 24) (S := fun w' => w'.cell? (ad253.add ((x6_3).toNat * 3)) = some (.int .i64 ((rd_T60 l1 x6_3).f0)) ∧ w'.cell? ⟨(ad253.add ((x6_3).toNat * 3)).block, (ad253.add ((x6_3).toNat * 3)).off + 1, none⟩ = some (.int .i64 ((rd_T60 l1 x6_3).f1)) ∧ w'.cell? ⟨(ad253.add ((x6_3).toNat * 3)).block, (ad253.add ((x6_3).toNat * 3)).off + 2, none⟩ = some (.int .i64 ((rd_T60 l1 x6_3).f2)) ∧ w'.cell? (ad253.add ((x5_1).toNat * 3)) = some (.int .i64 ((rd_T60 l1 x5_1).f0)) ∧ w'.cell? ⟨(ad253.add ((x5_1).toNat * 3)).block, (ad253.add ((x5_1).toNat * 3)).off + 1, none⟩ = some (.int .i64 ((rd_T60 l1 x5_1).f1)) ∧ w'.cell? ⟨(ad253.add ((x5_1).toNat * 3)).block, (ad253.add ((x5_1).toNat * 3)).off + 2, none⟩ = some (.int .i64 ((rd_T60 l1 x5_1).f2))) (ds := []) z19_71 (by kernel_rfl) rfl rfl ⟨((HB.out.cell (World.block_lt_of_cell? w _ hw253_0)).trans hw253_0), ((HB.out.cell (World.block_lt_of_cell? w _ hw253_1)).trans hw253_1), ((HB.out.cell (World.block_lt_of_cell? w _ hw253_2)).trans hw253_2), ((HB.out.cell (World.block_lt_of_cell? w _ hw254_0)).trans hw254_0), ((HB.out.cell (World.block_lt_of_cell? w _ hw254_1)).trans hw254_1), ((HB.out.cell (World.block_lt_of_cell? w _ hw254_2)).trans hw254_2)⟩ (fun hHeld => ?_); refine with_tabW spec_l4Ok.tab9 spec_l4Ok.bits9 (fun HT_ HW_ => ?_)
         generalize wr.drew = w31 at BK242 HB hx253_0 hx253_1 hx253_2 hx254_0 hx254_1 hx254_2 hHeld ⊢
         refine pu_ 0 74 z19_72 HT_.out ?_
         refine pu_ 1 75 z19_73 HT_.out ?_
         refine pu_ 2 76 z19_74 HT_.out ?_
         refine pu_ 3 77 z19_75 HT_.out ?_
         refine pu_ 5 79 z19_76 HT_.out ?_
         refine pu_ 6 80 z19_77 HT_.out ?_
         refine pu_ 7 81 z19_78 HT_.out ?_
         refine pu_ 8 82 z19_79 HT_.out ?_
         refine tk_ 4 78 z19_80 HT_.out HW_.out hHeld ?_
         refine tk_ 9 83 z19_81 HT_.out HW_.out hHeld ?_
         refine pu_ 10 84 z19_82 HT_.out ?_
         refine pu_ 11 85 z19_83 HT_.out ?_
         refine un_ 12 86 z19_84 HT_.out ?_
         refine un_ 13 87 z19_85 HT_.out ?_
         refine un_ 14 88 z19_86 HT_.out ?_
         refine un_ 15 89 z19_87 HT_.out ?_
         refine un_ 16 90 (bm_ 24 131071) HT_.out ?_
         refine un_ 17 91 (bm_ 24 262143) HT_.out ?_
         refine un_ 18 92 (bm_ 24 524287) HT_.out ?_
         refine un_ 19 93 (bm_ 24 1048575) HT_.out ?_
         refine un_ 20 94 z19_92 HT_.out ?_
         refine un_ 21 95 z19_93 HT_.out ?_
         refine un_ 22 96 z19_94 HT_.out ?_
         refine pu_ 23 97 z19_95 HT_.out ?_
         refine done_ (done_of HT_.out (by kernel_rfl)) ?_
         try go_wp2
         go_roundg k3
         case measure => have := HK1.out; have := HJ4.out; have := HK3.out; omega
         case rel => exact ⟨(wrap64 (x6_3 + 1)), ns_, H', ⟨by have := HK1.out; have := HJ4.out; have := HK3.out; omega⟩, ⟨nb_ BK242.out⟩, ⟨ne_ HB.out⟩⟩
        rw [if_pos c27] at H
        have c27b0 : (((rd_T60 l1 x6_3).f0) == ((rd_T60 l1 x5_1).f0)) = true := beq_iff_eq.mpr c27
        have c27b1 : (((rd_T60 l1 x6_3).f0) != ((rd_T60 l1 x5_1).f0)) = false := bne_eq_false_iff_eq.mpr c27
        clear c27
        by_cases c28 : ((rd_T60 l1 x6_3).f1) = ((rd_T60 l1 x5_1).f1)
        ·rw [if_pos c28] at H
         have c28b0 : (((rd_T60 l1 x6_3).f1) == ((rd_T60 l1 x5_1).f1)) = true := beq_iff_eq.mpr c28
         have c28b1 : (((rd_T60 l1 x6_3).f1) != ((rd_T60 l1 x5_1).f1)) = false := bne_eq_false_iff_eq.mpr c28
         clear c28
         obtain rfl := Option.some.inj H
         try go_wp2
         replace BK242 := Aside0.mk (blk_drew BK242.out)
         replace HB := Aside0.mk (below_drew1 HB.out)
         have p253 : 0 ≤ (x6_3 : Int) := of_decide_eq_true nx_
         have q253 : x6_3 < (l1.length : Int) := of_decide_eq_true nx_
         obtain ⟨ad253, e253, hx253_0, hx253_1, hx253_2⟩ := at_T60 HR1.out x6_3 p253 q253
         have hw253_2 := hx253_2
         have hw253_1 := hx253_1
         have hw253_0 := hx253_0
         cases e253
         replace hx253_0 := hb_ HB.out hx253_0
         replace hx253_1 := hb_ HB.out hx253_1
         replace hx253_2 := hb_ HB.out hx253_2
         replace p253 := eq_true p253
         replace q253 := eq_true q253
         have p254 : 0 ≤ (x5_1 : Int) := of_decide_eq_true nx_
         have q254 : x5_1 < (l1.length : Int) := of_decide_eq_true nx_
         obtain ⟨ad254, e254, hx254_0, hx254_1, hx254_2⟩ := at_T60 HR1.out x5_1 p254 q254
         have hw254_2 := hx254_2
         have hw254_1 := hx254_1
         have hw254_0 := hx254_0
         obtain rfl : ad253 = ad254 := (by injection e254)
         replace hx254_0 := hb_ HB.out hx254_0
         replace hx254_1 := hb_ HB.out hx254_1
         replace hx254_2 := hb_ HB.out hx254_2
         replace p254 := eq_true p254
         replace q254 := eq_true q254
         have p255 : 0 ≤ (x6_3 : Int) := of_decide_eq_true nx_
         have q255 : x6_3 < (l1.length : Int) := of_decide_eq_true nx_
         obtain ⟨ad255, e255, hx255_0, hx255_1, hx255_2⟩ := at_T60 HR1.out x6_3 p255 q255
         have hw255_2 := hx255_2
         have hw255_1 := hx255_1
         have hw255_0 := hx255_0
         obtain rfl : ad253 = ad255 := (by injection e255)
         replace hx255_0 := hb_ HB.out hx255_0
         replace hx255_1 := hb_ HB.out hx255_1
         replace hx255_2 := hb_ HB.out hx255_2
         replace p255 := eq_true p255
         replace q255 := eq_true q255
         have p256 : 0 ≤ (x5_1 : Int) := of_decide_eq_true nx_
         have q256 : x5_1 < (l1.length : Int) := of_decide_eq_true nx_
         obtain ⟨ad256, e256, hx256_0, hx256_1, hx256_2⟩ := at_T60 HR1.out x5_1 p256 q256
         have hw256_2 := hx256_2
         have hw256_1 := hx256_1
         have hw256_0 := hx256_0
         obtain rfl : ad253 = ad256 := (by injection e256)
         replace hx256_0 := hb_ HB.out hx256_0
         replace hx256_1 := hb_ HB.out hx256_1
         replace hx256_2 := hb_ HB.out hx256_2
         replace p256 := eq_true p256
         replace q256 := eq_true q256
         refine start_ (n := 24) (S := fun w' => w'.cell? (ad253.add ((x6_3).toNat * 3)) = some (.int .i64 ((rd_T60 l1 x6_3).f0)) ∧ w'.cell? ⟨(ad253.add ((x6_3).toNat * 3)).block, (ad253.add ((x6_3).toNat * 3)).off + 1, none⟩ = some (.int .i64 ((rd_T60 l1 x6_3).f1)) ∧ w'.cell? ⟨(ad253.add ((x6_3).toNat * 3)).block, (ad253.add ((x6_3).toNat * 3)).off + 2, none⟩ = some (.int .i64 ((rd_T60 l1 x6_3).f2)) ∧ w'.cell? (ad253.add ((x5_1).toNat * 3)) = some (.int .i64 ((rd_T60 l1 x5_1).f0)) ∧ w'.cell? ⟨(ad253.add ((x5_1).toNat * 3)).block, (ad253.add ((x5_1).toNat * 3)).off + 1, none⟩ = some (.int .i64 ((rd_T60 l1 x5_1).f1)) ∧ w'.cell? ⟨(ad253.add ((x5_1).toNat * 3)).block, (ad253.add ((x5_1).toNat * 3)).off + 2, none⟩ = some (.int .i64 ((rd_T60 l1 x5_1).f2)) ∧ w'.cell? (ad253.add ((x6_3).toNat * 3)) = some (.int .i64 ((rd_T60 l1 x6_3).f0)) ∧ w'.cell? ⟨(ad253.add ((x6_3).toNat * 3)).block, (ad253.add ((x6_3).toNat * 3)).off + 1, none⟩ = some (.int .i64 ((rd_T60 l1 x6_3).f1)) ∧ w'.cell? ⟨(ad253.add ((x6_3).toNat * 3)).block, (ad253.add ((x6_3).toNat * 3)).off + 2, none⟩ = some (.int .i64 ((rd_T60 l1 x6_3).f2)) ∧ w'.cell? (ad253.add ((x5_1).toNat * 3)) = some (.int .i64 ((rd_T60 l1 x5_1).f0)) ∧ w'.cell? ⟨(ad253.add ((x5_1).toNat * 3)).block, (ad253.add ((x5_1).toNat * 3)).off + 1, none⟩ = some (.int .i64 ((rd_T60 l1 x5_1).f1)) ∧ w'.cell? ⟨(ad253.add ((x5_1).toNat * 3)).block, (ad253.add ((x5_1).toNat * 3)).off + 2, none⟩ = some (.int .i64 ((rd_T60 l1 x5_1).f2))) (ds := []) z19_71 (by kernel_rfl) rfl rfl ⟨((HB.out.cell (World.block_lt_of_cell? w _ hw253_0)).trans hw253_0), ((HB.out.cell (World.block_lt_of_cell? w _ hw253_1)).trans hw253_1), ((HB.out.cell (World.block_lt_of_cell? w _ hw253_2)).trans hw253_2), ((HB.out.cell (World.block_lt_of_cell? w _ hw254_0)).trans hw254_0), ((HB.out.cell (World.block_lt_of_cell? w _ hw254_1)).trans hw254_1), ((HB.out.cell (World.block_lt_of_cell? w _ hw254_2)).trans hw254_2), ((HB.out.cell (World.block_lt_of_cell? w _ hw255_0)).trans hw255_0), ((HB.out.cell (World.block_lt_of_cell? w _ hw255_1)).trans hw255_1), ((HB.out.cell (World.block_lt_of_cell? w _ hw255_2)).trans hw255_2), ((HB.out.cell (World.block_lt_of_cell? w _ hw256_0)).trans hw256_0), ((HB.out.cell (World.block_lt_of_cell? w _ hw256_1)).trans hw256_1), ((HB.out.cell (World.block_lt_of_cell? w _ hw256_2)).trans hw256_2)⟩ (fun hHeld => ?_); refine with_tabW spec_l4Ok.tab9 spec_l4Ok.bits9 (fun HT_ HW_ => ?_)
         generalize wr.drew = w29 at BK242 HB hx253_0 hx253_1 hx253_2 hx254_0 hx254_1 hx254_2 hx255_0 hx255_1 hx255_2 hx256_0 hx256_1 hx256_2 hHeld ⊢
         refine pu_ 0 74 z19_72 HT_.out ?_
         refine pu_ 1 75 z19_73 HT_.out ?_
         refine pu_ 2 76 z19_74 HT_.out ?_
         refine pu_ 3 77 z19_75 HT_.out ?_
         refine pu_ 5 79 z19_76 HT_.out ?_
         refine pu_ 6 80 z19_77 HT_.out ?_
         refine pu_ 7 81 z19_78 HT_.out ?_
         refine pu_ 8 82 z19_79 HT_.out ?_
         refine tk_ 4 78 z19_80 HT_.out HW_.out hHeld ?_
         refine tk_ 9 83 z19_81 HT_.out HW_.out hHeld ?_
         refine pu_ 10 84 z19_82 HT_.out ?_
         refine pu_ 11 85 z19_83 HT_.out ?_
         refine pu_ 12 86 z19_84 HT_.out ?_
         refine pu_ 13 87 z19_85 HT_.out ?_
         refine pu_ 14 88 z19_86 HT_.out ?_
         refine pu_ 15 89 z19_87 HT_.out ?_
         refine pu_ 17 91 z19_88 HT_.out ?_
         refine pu_ 18 92 z19_89 HT_.out ?_
         refine pu_ 19 93 z19_90 HT_.out ?_
         refine pu_ 20 94 z19_91 HT_.out ?_
         refine tk_ 16 90 z19_92 HT_.out HW_.out hHeld ?_
         refine tk_ 21 95 z19_93 HT_.out HW_.out hHeld ?_
         refine pu_ 22 96 z19_94 HT_.out ?_
         refine pu_ 23 97 z19_95 HT_.out ?_
         refine done_ (done_of HT_.out (by kernel_rfl)) ?_
         try go_wp2
         go_ret
         exact ⟨nw_, ne_ HB.out⟩
        rw [if_neg c28] at H
        have c28b0 : (((rd_T60 l1 x6_3).f1) == ((rd_T60 l1 x5_1).f1)) = false := beq_eq_false_iff_ne.mpr c28
        have c28b1 : (((rd_T60 l1 x6_3).f1) != ((rd_T60 l1 x5_1).f1)) = true := bne_iff_ne.mpr c28
        have H' := Aside0.mk H
        clear H
        try go_wp2
        replace BK242 := Aside0.mk (blk_drew BK242.out)
        replace HB := Aside0.mk (below_drew1 HB.out)
        have p253 : 0 ≤ (x6_3 : Int) := of_decide_eq_true nx_
        have q253 : x6_3 < (l1.length : Int) := of_decide_eq_true nx_
        obtain ⟨ad253, e253, hx253_0, hx253_1, hx253_2⟩ := at_T60 HR1.out x6_3 p253 q253
        have hw253_2 := hx253_2
        have hw253_1 := hx253_1
        have hw253_0 := hx253_0
        cases e253
        replace hx253_0 := hb_ HB.out hx253_0
        replace hx253_1 := hb_ HB.out hx253_1
        replace hx253_2 := hb_ HB.out hx253_2
        replace p253 := eq_true p253
        replace q253 := eq_true q253
        have p254 : 0 ≤ (x5_1 : Int) := of_decide_eq_true nx_
        have q254 : x5_1 < (l1.length : Int) := of_decide_eq_true nx_
        obtain ⟨ad254, e254, hx254_0, hx254_1, hx254_2⟩ := at_T60 HR1.out x5_1 p254 q254
        have hw254_2 := hx254_2
        have hw254_1 := hx254_1
        have hw254_0 := hx254_0
        obtain rfl : ad253 = ad254 := (by injection e254)
        replace hx254_0 := hb_ HB.out hx254_0
        replace hx254_1 := hb_ HB.out hx254_1
        replace hx254_2 := hb_ HB.out hx254_2
        replace p254 := eq_true p254
        replace q254 := eq_true q254
        have p255 : 0 ≤ (x6_3 : Int) := of_decide_eq_true nx_
        have q255 : x6_3 < (l1.length : Int) := of_decide_eq_true nx_
        obtain ⟨ad255, e255, hx255_0, hx255_1, hx255_2⟩ := at_T60 HR1.out x6_3 p255 q255
        have hw255_2 := hx255_2
        have hw255_1 := hx255_1
        have hw255_0 := hx255_0
        obtain rfl : ad253 = ad255 := (by injection e255)
        replace hx255_0 := hb_ HB.out hx255_0
        replace hx255_1 := hb_ HB.out hx255_1
        replace hx255_2 := hb_ HB.out hx255_2
        replace p255 := eq_true p255
        replace q255 := eq_true q255
        have p256 : 0 ≤ (x5_1 : Int) := of_decide_eq_true nx_
        have q256 : x5_1 < (l1.length : Int) := of_decide_eq_true nx_
        obtain ⟨ad256, e256, hx256_0, hx256_1, hx256_2⟩ := at_T60 HR1.out x5_1 p256 q256
        have hw256_2 := hx256_2
        have hw256_1 := hx256_1
        have hw256_0 := hx256_0
        obtain rfl : ad253 = ad256 := (by injection e256)
        replace hx256_0 := hb_ HB.out hx256_0
        replace hx256_1 := hb_ HB.out hx256_1
        replace hx256_2 := hb_ HB.out hx256_2
        replace p256 := eq_true p256
        replace q256 := eq_true q256
        refine start_ (n := 24) (S := fun w' => w'.cell? (ad253.add ((x6_3).toNat * 3)) = some (.int .i64 ((rd_T60 l1 x6_3).f0)) ∧ w'.cell? ⟨(ad253.add ((x6_3).toNat * 3)).block, (ad253.add ((x6_3).toNat * 3)).off + 1, none⟩ = some (.int .i64 ((rd_T60 l1 x6_3).f1)) ∧ w'.cell? ⟨(ad253.add ((x6_3).toNat * 3)).block, (ad253.add ((x6_3).toNat * 3)).off + 2, none⟩ = some (.int .i64 ((rd_T60 l1 x6_3).f2)) ∧ w'.cell? (ad253.add ((x5_1).toNat * 3)) = some (.int .i64 ((rd_T60 l1 x5_1).f0)) ∧ w'.cell? ⟨(ad253.add ((x5_1).toNat * 3)).block, (ad253.add ((x5_1).toNat * 3)).off + 1, none⟩ = some (.int .i64 ((rd_T60 l1 x5_1).f1)) ∧ w'.cell? ⟨(ad253.add ((x5_1).toNat * 3)).block, (ad253.add ((x5_1).toNat * 3)).off + 2, none⟩ = some (.int .i64 ((rd_T60 l1 x5_1).f2)) ∧ w'.cell? (ad253.add ((x6_3).toNat * 3)) = some (.int .i64 ((rd_T60 l1 x6_3).f0)) ∧ w'.cell? ⟨(ad253.add ((x6_3).toNat * 3)).block, (ad253.add ((x6_3).toNat * 3)).off + 1, none⟩ = some (.int .i64 ((rd_T60 l1 x6_3).f1)) ∧ w'.cell? ⟨(ad253.add ((x6_3).toNat * 3)).block, (ad253.add ((x6_3).toNat * 3)).off + 2, none⟩ = some (.int .i64 ((rd_T60 l1 x6_3).f2)) ∧ w'.cell? (ad253.add ((x5_1).toNat * 3)) = some (.int .i64 ((rd_T60 l1 x5_1).f0)) ∧ w'.cell? ⟨(ad253.add ((x5_1).toNat * 3)).block, (ad253.add ((x5_1).toNat * 3)).off + 1, none⟩ = some (.int .i64 ((rd_T60 l1 x5_1).f1)) ∧ w'.cell? ⟨(ad253.add ((x5_1).toNat * 3)).block, (ad253.add ((x5_1).toNat * 3)).off + 2, none⟩ = some (.int .i64 ((rd_T60 l1 x5_1).f2))) (ds := []) z19_71 (by kernel_rfl) rfl rfl ⟨((HB.out.cell (World.block_lt_of_cell? w _ hw253_0)).trans hw253_0), ((HB.out.cell (World.block_lt_of_cell? w _ hw253_1)).trans hw253_1), ((HB.out.cell (World.block_lt_of_cell? w _ hw253_2)).trans hw253_2), ((HB.out.cell (World.block_lt_of_cell? w _ hw254_0)).trans hw254_0), ((HB.out.cell (World.block_lt_of_cell? w _ hw254_1)).trans hw254_1), ((HB.out.cell (World.block_lt_of_cell? w _ hw254_2)).trans hw254_2), ((HB.out.cell (World.block_lt_of_cell? w _ hw255_0)).trans hw255_0), ((HB.out.cell (World.block_lt_of_cell? w _ hw255_1)).trans hw255_1), ((HB.out.cell (World.block_lt_of_cell? w _ hw255_2)).trans hw255_2), ((HB.out.cell (World.block_lt_of_cell? w _ hw256_0)).trans hw256_0), ((HB.out.cell (World.block_lt_of_cell? w _ hw256_1)).trans hw256_1), ((HB.out.cell (World.block_lt_of_cell? w _ hw256_2)).trans hw256_2)⟩ (fun hHeld => ?_); refine with_tabW spec_l4Ok.tab9 spec_l4Ok.bits9 (fun HT_ HW_ => ?_)
        generalize wr.drew = w30 at BK242 HB hx253_0 hx253_1 hx253_2 hx254_0 hx254_1 hx254_2 hx255_0 hx255_1 hx255_2 hx256_0 hx256_1 hx256_2 hHeld ⊢
        refine pu_ 0 74 z19_72 HT_.out ?_
        refine pu_ 1 75 z19_73 HT_.out ?_
        refine pu_ 2 76 z19_74 HT_.out ?_
        refine pu_ 3 77 z19_75 HT_.out ?_
        refine pu_ 5 79 z19_76 HT_.out ?_
        refine pu_ 6 80 z19_77 HT_.out ?_
        refine pu_ 7 81 z19_78 HT_.out ?_
        refine pu_ 8 82 z19_79 HT_.out ?_
        refine tk_ 4 78 z19_80 HT_.out HW_.out hHeld ?_
        refine tk_ 9 83 z19_81 HT_.out HW_.out hHeld ?_
        refine pu_ 10 84 z19_82 HT_.out ?_
        refine pu_ 11 85 z19_83 HT_.out ?_
        refine pu_ 12 86 z19_84 HT_.out ?_
        refine pu_ 13 87 z19_85 HT_.out ?_
        refine pu_ 14 88 z19_86 HT_.out ?_
        refine pu_ 15 89 z19_87 HT_.out ?_
        refine pu_ 17 91 z19_88 HT_.out ?_
        refine pu_ 18 92 z19_89 HT_.out ?_
        refine pu_ 19 93 z19_90 HT_.out ?_
        refine pu_ 20 94 z19_91 HT_.out ?_
        refine tk_ 16 90 z19_92 HT_.out HW_.out hHeld ?_
        refine tk_ 21 95 z19_93 HT_.out HW_.out hHeld ?_
        refine pu_ 22 96 z19_94 HT_.out ?_
        refine pu_ 23 97 z19_95 HT_.out ?_
        refine done_ (done_of HT_.out (by kernel_rfl)) ?_
        try go_wp2
        go_roundg k3
        case measure => have := HK1.out; have := HJ4.out; have := HK3.out; omega
        case rel => exact ⟨(wrap64 (x6_3 + 1)), ns_, H', ⟨by have := HK1.out; have := HJ4.out; have := HK3.out; omega⟩, ⟨nb_ BK242.out⟩, ⟨ne_ HB.out⟩⟩
end Go.Proofs.Ytfijdkjibjdbiaa.Print
