-- Made by this session's own program (wip/patch_print.py, over the kit's print). Lean checks it.
import Derived.Test.YtahcomglicodlaaPrint0
import Derived.Test.YtahcomglicodlaaPrintB
namespace Go.Proofs.Ytahcomglicodlaa.Print
open Go.RowKit Go.Proofs.YtahcomglicodlaaW.PrintWords Go.Proofs.YtahcomglicodlaaW.PrintLast Go.Proofs.YtahcomglicodlaaW.PrintMore Go.Proofs.YtahcomglicodlaaX
attribute [local go_sem] max2_int min2_int max_two min_two max_three min_three max_four min_four   -- for this text's walks alone
set_option linter.unusedVariables false
set_option linter.unusedSimpArgs false

abbrev z15_0 := bm_ 56 0
abbrev z15_1 := bm_ 56 1
abbrev z15_2 := bm_ 56 3
abbrev z15_3 := bm_ 56 7
abbrev z15_4 := bm_ 56 15
abbrev z15_5 := bm_ 56 47
abbrev z15_6 := bm_ 56 63
abbrev z15_7 := bm_ 56 127
abbrev z15_8 := bm_ 56 255
abbrev z15_9 := bm_ 56 511
abbrev z15_10 := bm_ 56 1023
abbrev z15_11 := bm_ 56 2047
abbrev z15_12 := bm_ 56 4095
abbrev z15_13 := bm_ 56 8191
abbrev z15_14 := bm_ 56 16383
abbrev z15_15 := bm_ 56 32767
abbrev z15_16 := bm_ 56 65535
abbrev z15_17 := bm_ 56 196607
abbrev z15_18 := bm_ 56 262143
abbrev z15_19 := bm_ 56 524287
abbrev z15_20 := bm_ 56 1048575
abbrev z15_21 := bm_ 56 2097151
abbrev z15_22 := bm_ 56 4194303
abbrev z15_23 := bm_ 56 8388607
abbrev z15_24 := bm_ 56 16777215
abbrev z15_25 := bm_ 56 33554431
abbrev z15_26 := bm_ 56 67108863
abbrev z15_27 := bm_ 56 201326591
abbrev z15_28 := bm_ 56 469762047
abbrev z15_29 := bm_ 56 1006632959
abbrev z15_30 := bm_ 56 2080374783
abbrev z15_31 := bm_ 56 36440113151
abbrev z15_32 := bm_ 56 173879066623
abbrev z15_33 := bm_ 56 448756973567
abbrev z15_34 := bm_ 56 998512787455
abbrev z15_35 := bm_ 56 2098024415231
abbrev z15_36 := bm_ 56 2098091524095
abbrev z15_37 := bm_ 56 2100239007743
abbrev z15_38 := bm_ 56 2104533975039
abbrev z15_39 := bm_ 56 2113123909631
abbrev z15_40 := bm_ 56 2130303778815
abbrev z15_41 := bm_ 56 2199023255551
abbrev z15_42 := bm_ 56 4398046511103
abbrev z15_43 := bm_ 56 8796093022207
abbrev z15_44 := bm_ 56 17592186044415
abbrev z15_45 := bm_ 56 35184372088831
abbrev z15_46 := bm_ 56 70368744177663
abbrev z15_47 := bm_ 56 140737488355327
abbrev z15_48 := bm_ 56 281474976710655
abbrev z15_49 := bm_ 56 562949953421311
abbrev z15_50 := bm_ 56 1125899906842623
abbrev z15_51 := bm_ 56 2251799813685247
abbrev z15_52 := bm_ 56 4503599627370495
abbrev z15_53 := bm_ 56 9007199254740991
abbrev z15_54 := bm_ 56 18014398509481983
abbrev z15_55 := bm_ 56 36028797018963967
abbrev z15_56 := bm_ 56 72057594037927935
abbrev z15_57 := bm_ 56 134217727
abbrev z15_58 := bm_ 56 268435455
abbrev z15_59 := bm_ 56 536870911
abbrev z15_60 := bm_ 56 1073741823
abbrev z15_61 := bm_ 56 2147483647
abbrev z15_62 := bm_ 56 4294967295
abbrev z15_63 := bm_ 56 8589934591
abbrev z15_64 := bm_ 56 17179869183
abbrev z15_65 := bm_ 56 34359738367
abbrev z15_66 := bm_ 56 68719476735
abbrev z15_67 := bm_ 56 137438953471
abbrev z15_68 := bm_ 56 274877906943
abbrev z15_69 := bm_ 56 549755813887
abbrev z15_70 := bm_ 56 1099511627775
abbrev z15_71 := bm_ 24 0
abbrev z15_72 := bm_ 24 1
abbrev z15_73 := bm_ 24 3
abbrev z15_74 := bm_ 24 7
abbrev z15_75 := bm_ 24 15
abbrev z15_76 := bm_ 24 47
abbrev z15_77 := bm_ 24 111
abbrev z15_78 := bm_ 24 239
abbrev z15_79 := bm_ 24 495
abbrev z15_80 := bm_ 24 511
abbrev z15_81 := bm_ 24 1023
abbrev z15_82 := bm_ 24 2047
abbrev z15_83 := bm_ 24 4095
abbrev z15_84 := bm_ 24 8191
abbrev z15_85 := bm_ 24 16383
abbrev z15_86 := bm_ 24 32767
abbrev z15_87 := bm_ 24 65535
abbrev z15_88 := bm_ 24 196607
abbrev z15_89 := bm_ 24 458751
abbrev z15_90 := bm_ 24 983039
abbrev z15_91 := bm_ 24 2031615
abbrev z15_92 := bm_ 24 2097151
abbrev z15_93 := bm_ 24 4194303
abbrev z15_94 := bm_ 24 8388607
abbrev z15_95 := bm_ 24 16777215
/-! ### spec_l4Ok: function 15 -/
mutual
def spec_l4Ok.l0 : Nat → List (S31) → Int → Int → List (S33) → Option (Bool)
  | 0, _, _, _, _ => none
  | k + 1, x1, x5, x245000, x245001 => if x5 < (x1.length : Int) then (if 0 ≤ x5 then ((spec_l1In.f ((rd_T31 x1 x5).f0) 0 (wrap64 ((x245001.length : Int) - 1))).bind fun t246 => (if t246 = true then ((spec_l1In.f ((rd_T31 x1 x5).f1) 0 (wrap64 ((x245001.length : Int) - 1))).bind fun t248 => (if t248 = true then (if 0 ≤ ((rd_T31 x1 x5).f0) then (if ((rd_T31 x1 x5).f0) < (x245001.length : Int) then (if 0 ≤ ((rd_T31 x1 x5).f1) then (if ((rd_T31 x1 x5).f1) < (x245001.length : Int) then (if ((rd_T33 x245001 ((rd_T31 x1 x5).f0)).f1) = ((rd_T33 x245001 ((rd_T31 x1 x5).f1)).f0) then ((spec_l1In.f ((rd_T31 x1 x5).f2) (-1) 99).bind fun t254 => (spec_l4Ok.j1 k x1 x5 (!t254) x245000 x245001)) else (spec_l4Ok.j1 k x1 x5 true x245000 x245001)) else (none)) else (none)) else (none)) else (none)) else (spec_l4Ok.j1 k x1 x5 true x245000 x245001))) else (spec_l4Ok.j1 k x1 x5 true x245000 x245001))) else (none)) else (some (decide ((x1.length : Int) ≤ 12)))
def spec_l4Ok.j1 : Nat → List (S31) → Int → Bool → Int → List (S33) → Option (Bool)
  | 0, _, _, _, _, _ => none
  | k + 1, x1, x5, x68, x245000, x245001 => if x68 = true then (some false) else (spec_l4Ok.l1 k x1 x5 0 x245000 x245001)
def spec_l4Ok.l1 : Nat → List (S31) → Int → Int → Int → List (S33) → Option (Bool)
  | 0, _, _, _, _, _ => none
  | k + 1, x1, x5, x6, x245000, x245001 => if x6 < x5 then (if 0 ≤ x6 then (if x6 < (x1.length : Int) then (if 0 ≤ x5 then (if x5 < (x1.length : Int) then (if ((rd_T31 x1 x6).f0) = ((rd_T31 x1 x5).f0) then (if ((rd_T31 x1 x6).f1) = ((rd_T31 x1 x5).f1) then (some false) else (spec_l4Ok.l1 k x1 x5 (wrap64 (x6 + 1)) x245000 x245001)) else (spec_l4Ok.l1 k x1 x5 (wrap64 (x6 + 1)) x245000 x245001)) else (none)) else (none)) else (none)) else (none)) else (spec_l4Ok.l0 k x1 (wrap64 (x5 + 1)) x245000 x245001)
end
def spec_l4Ok.f (k : Nat) (a0_0 : Int) (l0_1 : List (S33)) (l1 : List (S31)) : Option (Bool) := spec_l4Ok.l0 k l1 0 a0_0 l0_1
theorem spec_l4Ok.mono_l : ∀ k, (∀ y0 y1 y2 y3, LeO (spec_l4Ok.l0 k y0 y1 y2 y3) (spec_l4Ok.l0 (k + 1) y0 y1 y2 y3)) ∧ (∀ y0 y1 y2 y3 y4, LeO (spec_l4Ok.j1 k y0 y1 y2 y3 y4) (spec_l4Ok.j1 (k + 1) y0 y1 y2 y3 y4)) ∧ (∀ y0 y1 y2 y3 y4, LeO (spec_l4Ok.l1 k y0 y1 y2 y3 y4) (spec_l4Ok.l1 (k + 1) y0 y1 y2 y3 y4))
  | 0 => ⟨fun _ _ _ _ r h => by simp [spec_l4Ok.l0] at h, fun _ _ _ _ _ r h => by simp [spec_l4Ok.j1] at h, fun _ _ _ _ _ r h => by simp [spec_l4Ok.l1] at h⟩
  | k + 1 => by
    obtain ⟨ih0, ih1, ih2⟩ := spec_l4Ok.mono_l k
    refine ⟨?_, ?_, ?_⟩
    · intro y0 y1 y2 y3
      unfold spec_l4Ok.l0
      repeat' first | (with_reducible first | exact ih0 _ _ _ _ | exact ih1 _ _ _ _ _ | exact ih2 _ _ _ _ _ | exact LeO.refl _ | exact LeO.none _ | refine LeO.ite ?_ ?_ | refine LeO.bind ?_ (fun _ => ?_)) | exact ih0 _ _ _ _ | exact ih1 _ _ _ _ _ | exact ih2 _ _ _ _ _ | exact LeO.none _ | refine LeO.ite ?_ ?_ | refine LeO.bind ?_ (fun _ => ?_)
    · intro y0 y1 y2 y3 y4
      unfold spec_l4Ok.j1
      repeat' first | (with_reducible first | exact ih0 _ _ _ _ | exact ih1 _ _ _ _ _ | exact ih2 _ _ _ _ _ | exact LeO.refl _ | exact LeO.none _ | refine LeO.ite ?_ ?_ | refine LeO.bind ?_ (fun _ => ?_)) | exact ih0 _ _ _ _ | exact ih1 _ _ _ _ _ | exact ih2 _ _ _ _ _ | exact LeO.none _ | refine LeO.ite ?_ ?_ | refine LeO.bind ?_ (fun _ => ?_)
    · intro y0 y1 y2 y3 y4
      unfold spec_l4Ok.l1
      repeat' first | (with_reducible first | exact ih0 _ _ _ _ | exact ih1 _ _ _ _ _ | exact ih2 _ _ _ _ _ | exact LeO.refl _ | exact LeO.none _ | refine LeO.ite ?_ ?_ | refine LeO.bind ?_ (fun _ => ?_)) | exact ih0 _ _ _ _ | exact ih1 _ _ _ _ _ | exact ih2 _ _ _ _ _ | exact LeO.none _ | refine LeO.ite ?_ ?_ | refine LeO.bind ?_ (fun _ => ?_)
theorem spec_l4Ok.mono : ∀ a0 a1 a2 k, LeO (spec_l4Ok.f k a0 a1 a2) (spec_l4Ok.f (k + 1) a0 a1 a2) := by
  intro a0 a1 a2 k
  obtain ⟨ih0, ih1, ih2⟩ := spec_l4Ok.mono_l k
  unfold spec_l4Ok.f
  repeat' first | (with_reducible first | exact ih0 _ _ _ _ | exact ih1 _ _ _ _ _ | exact ih2 _ _ _ _ _ | exact LeO.refl _ | exact LeO.none _ | refine LeO.ite ?_ ?_ | refine LeO.bind ?_ (fun _ => ?_)) | exact ih0 _ _ _ _ | exact ih1 _ _ _ _ _ | exact ih2 _ _ _ _ _ | exact LeO.none _ | refine LeO.ite ?_ ?_ | refine LeO.bind ?_ (fun _ => ?_)
def spec_l4Ok.T4 : Bool × List (List Nat × List Nat) := (true, [([], []), ([], []), ([0, 1], [0, 1]), ([2], [2]), ([3], [3]), ([], []), ([5], [5]), ([6], [6]), ([7], [7]), ([4, 8], [4, 8]), ([9], [9]), ([10, 9], [10]), ([11], [11]), ([11], [11]), ([12, 13, 11], [11, 12, 13]), ([14, 11], [11, 14]), ([15, 11], [11, 15]), ([11], [11]), ([17, 11], [11, 17]), ([18, 11], [11, 18]), ([19, 11], [11, 19]), ([16, 20, 11, 11], [11, 16, 20]), ([21, 11], [11, 21]), ([11, 22], [11, 22]), ([23, 21], [23]), ([24], [24]), ([25, 24], [24, 25]), ([24], [24]), ([24], [24]), ([27, 28, 24], [24, 27, 28]), ([29, 24], [24, 29]), ([30, 24], [24, 30]), ([26, 31, 24], [24, 26, 31]), ([32, 24], [24, 32]), ([33, 24], [24, 33]), ([24], [24]), ([35, 24], [24, 35]), ([24], [24]), ([24], [24]), ([37, 38, 24], [24, 37, 38]), ([39, 24], [24, 39]), ([40, 24], [24, 40]), ([36, 41, 24], [24, 36, 41]), ([42, 24], [24, 42]), ([43, 24], [24, 43]), ([34, 44, 24], [24, 34, 44]), ([24, 45], [24, 45]), ([46, 24], [46]), ([47], [47]), ([47], [47]), ([48, 49, 47], [47, 48, 49]), ([50, 47], [47, 50]), ([51, 47], [47, 51]), ([52, 47, 47], [47, 52]), ([53, 47], [47, 53]), ([47, 54], [47, 54])])
def spec_l4Ok.B4 : List Nat := [0, 0, 3, 7, 15, 0, 32, 96, 224, 511, 1023, 2047, 4095, 4095, 16383, 32767, 65535, 4095, 135167, 397311, 921599, 2097151, 4194303, 8388607, 16777215, 33554431, 67108863, 33554431, 33554431, 436207615, 973078527, 2046820351, 4294967295, 8589934591, 17179869183, 33554431, 34393292799, 33554431, 33554431, 412350414847, 962106228735, 2061617856511, 4363720327167, 8761766838271, 17557859860479, 35184372088831, 70368744177663, 140737488355327, 281474976710655, 281474976710655, 1125899906842623, 2251799813685247, 4503599627370495, 9007199254740991, 18014398509481983, 36028797018963967]
theorem spec_l4Ok.tab4 : rtab .any (opsOf Try.f15 4) = spec_l4Ok.T4 := by kernel_rfl
theorem spec_l4Ok.bits4 : waitsOk spec_l4Ok.T4.2 spec_l4Ok.B4 = true := by kernel_rfl
def spec_l4Ok.T9 : Bool × List (List Nat × List Nat) := (true, [([], []), ([], []), ([0, 1], [0, 1]), ([2], [2]), ([3], [3]), ([], []), ([], []), ([5, 6], [5, 6]), ([7], [7]), ([8], [8]), ([4, 9], [4, 9]), ([10], [10]), ([11], [11]), ([11], [11]), ([12, 13, 11], [11, 12, 13]), ([14, 11], [11, 14]), ([15, 11], [11, 15]), ([11], [11]), ([11], [11]), ([17, 18, 11], [11, 17, 18]), ([19, 11], [11, 19]), ([20, 11], [11, 20]), ([16, 21, 11], [11, 16, 21]), ([11, 22], [11, 22])])
def spec_l4Ok.B9 : List Nat := [0, 0, 3, 7, 15, 0, 0, 96, 224, 480, 1023, 2047, 4095, 4095, 16383, 32767, 65535, 4095, 4095, 397311, 921599, 1970175, 4194303, 8388607]
theorem spec_l4Ok.tab9 : rtab .any (opsOf Try.f15 9) = spec_l4Ok.T9 := by kernel_rfl
theorem spec_l4Ok.bits9 : waitsOk spec_l4Ok.T9.2 spec_l4Ok.B9 = true := by kernel_rfl
set_option maxHeartbeats 200000000 in
set_option maxRecDepth 100000 in
theorem spec_l4Ok.calls (k : Nat) (a0_0 : Int) (A0_1 : Option Addr) (c0_1 : Nat) (l0_1 : List (S33)) (A1 : Option Addr) (c1 : Nat) (l1 : List (S31)) (r : Bool) (w : World) (hr0_1 : Kd.C k33 w A0_1 l0_1.length l0_1) (hc0_1 : l0_1.length ≤ c0_1) (hr1 : Kd.C k31 w A1 l1.length l1) (hc1 : l1.length ≤ c1) (h : spec_l4Ok.f k a0_0 l0_1 l1 = some r) :
    Calls Try.prog 15 #[.agg #[.int .i64 a0_0, .slice A0_1 l0_1.length c0_1], .slice A1 l1.length c1] w fun e w' => e = .returned (.bool r) ∧ Below w.heap.size w w' := by
  have hu25 := Try.underlying25
  have HR0_1 := Aside0.mk hr0_1
  have HC0_1 := Aside0.mk hc0_1
  clear hr0_1 hc0_1
  have HR1 := Aside0.mk hr1
  have HC1 := Aside0.mk hc1
  clear hr1 hc1
  have HB := Aside0.mk (Below.refl w.heap.size w)
  have H : (spec_l4Ok.l0 k l1 0 a0_0 l0_1) = some r := h
  clear h
  have H' := Aside0.mk H
  clear H
  go_enter Try.func15, Try.ntmps15
  go_wp2_with (first | ((with_reducible refine gate_dst (N := 2) rfl ?_); (try (refine gate_guard (by rfl) ?_; dsimp only)); refine bx_ 2 #[.int .i64 a0_0, .slice A0_1 l0_1.length c0_1] 25 ?_; intro gb244 hg w3 hbox hb; have BK244 := Aside0.mk (hbox); have GW244 := Aside0.mk (zs_ hg (ne_ HB.out)); have GE244 := Aside0.mk (zs_ hg (ne_ HB.out)); replace HB := kB_ HB hb; clear hb hbox hg))
  go_loopg [5] k (fun kq v5 w' => ∃ (x5_1 : Int), v5 = .int .i64 x5_1 ∧ Aside0 (spec_l4Ok.l0 kq l1 x5_1 a0_0 l0_1 = some r) ∧ Aside0 (kq ≤ k) ∧ Aside0 (w'.heap[gb244]? = some (.cells #[.int .i64 a0_0, (.slice A0_1 l0_1.length c0_1)] 25 (0, 0))) ∧ Aside0 (Below w.heap.size w w'))
  case atStart => exact ⟨(0), ns_, H', ⟨Nat.le_refl _⟩, ⟨nb_ BK244.out⟩, ⟨ne_ HB.out⟩⟩
  case round =>
   clear H'
   try clear c1
   obtain ⟨x5_1, rfl, HA, HK1, BK244, HB⟩ := hrel
   cases gk with
   | zero => exact absurd HA.out (by simp [spec_l4Ok.l0])
   | succ k1 =>
    have H := HA.out
    clear HA
    simp only [spec_l4Ok.l0] at H
    by_cases c4 : x5_1 < (l1.length : Int)
    rotate_left
    ·rw [if_neg c4] at H
     have c4b0 : decide (x5_1 < (l1.length : Int)) = false := decide_eq_false c4
     clear c4
     obtain rfl := Option.some.inj H
     go_wp2
     go_ret
     exact ⟨nw_, ne_ HB.out⟩

    rw [if_pos c4] at H
    have c4b0 : decide (x5_1 < (l1.length : Int)) = true := decide_eq_true c4
    clear c4
    have HC5 := Aside0.mk H
    clear H
    go_upto_region 4 with (fail)
    go_cut [68] (fun v68 wc => ∃ (kq : Nat) (x68_4 : Bool), v68 = .bool x68_4 ∧ Aside0 (spec_l4Ok.j1 kq l1 x5_1 x68_4 a0_0 l0_1 = some r) ∧ Aside0 (kq ≤ k1) ∧ Aside0 (wc.heap[gb244]? = some (.cells #[.int .i64 a0_0, (.slice A0_1 l0_1.length c0_1)] 25 (0, 0))) ∧ Aside0 (Below w.heap.size w wc))
    case first =>
     have H := HC5.out
     clear HC5
     by_cases c6 : 0 ≤ x5_1
     rotate_left
     ·rw [if_neg c6] at H
      exact absurd H (by simp)
     rw [if_pos c6] at H
     have c6b0 : decide (0 ≤ x5_1) = true := decide_eq_true c6
     clear c6
     (first | rw [c6b0] | (simp only [i64_w, i32_w]; rw [c6b0]) | skip)
     replace H := Option.bind_eq_some_iff.mp H
     obtain ⟨t246, A70, H⟩ := H
     try dsimp only at H
     have A7 := Aside0.mk A70
     clear A70
     by_cases c8 : t246 = true
     rotate_left
     ·replace c8 := Bool.eq_false_iff.mpr c8
      subst c8
      have H1 : (spec_l4Ok.j1 k1 l1 x5_1 true a0_0 l0_1) = some r := by rw [if_neg (show ¬ (false = true) by decide)] at H; exact H
      clear H
      have H := H1
      clear H1
      have H' := Aside0.mk H
      clear H
      try go_wp2
      replace BK244 := Aside0.mk (blk_drew BK244.out)
      replace HB := Aside0.mk (below_drew1 HB.out)
      have p245 : 0 ≤ (x5_1 : Int) := of_decide_eq_true nx_
      have q245 : x5_1 < (l1.length : Int) := of_decide_eq_true nx_
      obtain ⟨ad245, e245, hx245_0, hx245_1, hx245_2⟩ := at_T31 HR1.out x5_1 p245 q245
      have hw245_2 := hx245_2
      have hw245_1 := hx245_1
      have hw245_0 := hx245_0
      cases e245
      replace hx245_0 := hb_ HB.out hx245_0
      replace hx245_1 := hb_ HB.out hx245_1
      replace hx245_2 := hb_ HB.out hx245_2
      replace p245 := eq_true p245
      replace q245 := eq_true q245
      refine start_ (n := 56) (S := fun w' => w'.cell? ⟨gb244, 0, none⟩ = some (.int .i64 a0_0) ∧ w'.cell? ⟨gb244, 1, none⟩ = some (.slice A0_1 l0_1.length c0_1) ∧ w'.cell? (ad245.add ((x5_1).toNat * 3)) = some (.int .i64 ((rd_T31 l1 x5_1).f0)) ∧ w'.cell? ⟨(ad245.add ((x5_1).toNat * 3)).block, (ad245.add ((x5_1).toNat * 3)).off + 1, none⟩ = some (.int .i64 ((rd_T31 l1 x5_1).f1)) ∧ w'.cell? ⟨(ad245.add ((x5_1).toNat * 3)).block, (ad245.add ((x5_1).toNat * 3)).off + 2, none⟩ = some (.int .i64 ((rd_T31 l1 x5_1).f2))) (ds := []) z15_0 (by kernel_rfl) rfl rfl ⟨ct_ BK244.out 0, ct_ BK244.out 1, ((HB.out.cell (World.block_lt_of_cell? w _ hw245_0)).trans hw245_0), ((HB.out.cell (World.block_lt_of_cell? w _ hw245_1)).trans hw245_1), ((HB.out.cell (World.block_lt_of_cell? w _ hw245_2)).trans hw245_2)⟩ (fun hHeld => ?_); refine with_tabW spec_l4Ok.tab4 spec_l4Ok.bits4 (fun HT_ HW_ => ?_)
      generalize wr.drew = w20 at BK244 HB hx245_0 hx245_1 hx245_2 hHeld ⊢
      refine pu_ 0 13 z15_1 HT_.out ?_
      refine pu_ 1 14 z15_2 HT_.out ?_
      refine pu_ 2 15 z15_3 HT_.out ?_
      refine pu_ 3 16 z15_4 HT_.out ?_
      refine pu_ 5 18 z15_5 HT_.out ?_
      refine tk_ 4 17 z15_6 HT_.out HW_.out hHeld ?_
      refine tk_ 6 19 z15_7 HT_.out HW_.out hHeld ?_
      refine pu_ 7 20 z15_8 HT_.out ?_
      refine pu_ 8 21 z15_9 HT_.out ?_
      refine one_ (i := 9) (N := some 22) z15_10 rfl rfl (one_of HT_.out (by kernel_rfl)) (by decide) (fun K hK => ?_)
      refine go_ Try.func24 #[.int .i64 ((rd_T31 l1 x5_1).f0), .int .i64 0, .int .i64 (wrap64 ((l0_1.length : Int) - 1))] ?_
      with_reducible refine (spec_l1In.calls ((rd_T31 l1 x5_1).f0) 0 (wrap64 ((l0_1.length : Int) - 1)) false _ A7.out).mono ?_
      rintro e w' ⟨rfl, ⟨nd, rfl⟩⟩
      refine ⟨_, rfl, ?_⟩
      refine hK.out _ _ ⟨ct_ BK244.out 0, ct_ BK244.out 1, ((HB.out.cell (World.block_lt_of_cell? w _ hw245_0)).trans hw245_0), ((HB.out.cell (World.block_lt_of_cell? w _ hw245_1)).trans hw245_1), ((HB.out.cell (World.block_lt_of_cell? w _ hw245_2)).trans hw245_2)⟩ (fun hHeld => ?_)
      clear hK K
      refine nm1_ (some 22) ?_
      refine pu_ 10 23 z15_11 HT_.out ?_
      refine pu_ 11 24 z15_12 HT_.out ?_
      refine un_ 12 25 z15_13 HT_.out ?_
      refine un_ 13 26 z15_14 HT_.out ?_
      refine un_ 14 27 z15_15 HT_.out ?_
      refine un_ 15 28 z15_16 HT_.out ?_
      refine un_ 16 29 (bm_ 56 131071) HT_.out ?_
      refine un_ 17 30 z15_18 HT_.out ?_
      refine un_ 18 31 z15_19 HT_.out ?_
      refine un_ 19 32 z15_20 HT_.out ?_
      refine un_ 20 33 z15_21 HT_.out ?_
      refine un_ 21 34 z15_22 HT_.out ?_
      refine un_ 22 35 z15_23 HT_.out ?_
      refine pu_ 23 36 z15_24 HT_.out ?_
      refine pu_ 24 37 z15_25 HT_.out ?_
      refine un_ 25 38 z15_26 HT_.out ?_
      refine un_ 26 39 z15_57 HT_.out ?_
      refine un_ 27 40 z15_58 HT_.out ?_
      refine un_ 28 41 z15_59 HT_.out ?_
      refine un_ 29 42 z15_60 HT_.out ?_
      refine un_ 30 43 z15_61 HT_.out ?_
      refine un_ 31 44 z15_62 HT_.out ?_
      refine un_ 32 45 z15_63 HT_.out ?_
      refine un_ 33 46 z15_64 HT_.out ?_
      refine un_ 34 47 z15_65 HT_.out ?_
      refine un_ 35 48 z15_66 HT_.out ?_
      refine un_ 36 49 z15_67 HT_.out ?_
      refine un_ 37 50 z15_68 HT_.out ?_
      refine un_ 38 51 z15_69 HT_.out ?_
      refine un_ 39 52 z15_70 HT_.out ?_
      refine un_ 40 53 z15_41 HT_.out ?_
      refine un_ 41 54 z15_42 HT_.out ?_
      refine un_ 42 55 z15_43 HT_.out ?_
      refine un_ 43 56 z15_44 HT_.out ?_
      refine un_ 44 57 z15_45 HT_.out ?_
      refine un_ 45 58 z15_46 HT_.out ?_
      refine pu_ 46 59 z15_47 HT_.out ?_
      refine pu_ 47 60 z15_48 HT_.out ?_
      refine un_ 48 61 z15_49 HT_.out ?_
      refine un_ 49 62 z15_50 HT_.out ?_
      refine un_ 50 63 z15_51 HT_.out ?_
      refine un_ 51 64 z15_52 HT_.out ?_
      refine un_ 52 65 z15_53 HT_.out ?_
      refine un_ 53 66 z15_54 HT_.out ?_
      refine un_ 54 67 z15_55 HT_.out ?_
      refine pu_ 55 68 z15_56 HT_.out ?_
      refine done_ (done_of HT_.out (by kernel_rfl)) ?_
      try go_wp2
      go_meet
      case rel => exact ⟨_, (true), ns_, H', ⟨by have := HK1.out; first | omega | exact Nat.le_refl _⟩, ⟨nb_ BK244.out⟩, ⟨ne_ HB.out⟩⟩
     subst c8
     rw [if_pos rfl] at H
     replace H := Option.bind_eq_some_iff.mp H
     obtain ⟨t248, A90, H⟩ := H
     try dsimp only at H
     have A9 := Aside0.mk A90
     clear A90
     by_cases c10 : t248 = true
     rotate_left
     ·replace c10 := Bool.eq_false_iff.mpr c10
      subst c10
      have H1 : (spec_l4Ok.j1 k1 l1 x5_1 true a0_0 l0_1) = some r := by rw [if_neg (show ¬ (false = true) by decide)] at H; exact H
      clear H
      have H := H1
      clear H1
      have H' := Aside0.mk H
      clear H
      try go_wp2
      replace BK244 := Aside0.mk (blk_drew BK244.out)
      replace HB := Aside0.mk (below_drew1 HB.out)
      have p245 : 0 ≤ (x5_1 : Int) := of_decide_eq_true nx_
      have q245 : x5_1 < (l1.length : Int) := of_decide_eq_true nx_
      obtain ⟨ad245, e245, hx245_0, hx245_1, hx245_2⟩ := at_T31 HR1.out x5_1 p245 q245
      have hw245_2 := hx245_2
      have hw245_1 := hx245_1
      have hw245_0 := hx245_0
      cases e245
      replace hx245_0 := hb_ HB.out hx245_0
      replace hx245_1 := hb_ HB.out hx245_1
      replace hx245_2 := hb_ HB.out hx245_2
      replace p245 := eq_true p245
      replace q245 := eq_true q245
      have p247 : 0 ≤ (x5_1 : Int) := of_decide_eq_true nx_
      have q247 : x5_1 < (l1.length : Int) := of_decide_eq_true nx_
      obtain ⟨ad247, e247, hx247_0, hx247_1, hx247_2⟩ := at_T31 HR1.out x5_1 p247 q247
      have hw247_2 := hx247_2
      have hw247_1 := hx247_1
      have hw247_0 := hx247_0
      obtain rfl : ad245 = ad247 := (by injection e247)
      replace hx247_0 := hb_ HB.out hx247_0
      replace hx247_1 := hb_ HB.out hx247_1
      replace hx247_2 := hb_ HB.out hx247_2
      replace p247 := eq_true p247
      replace q247 := eq_true q247
      refine start_ (n := 56) (S := fun w' => w'.cell? ⟨gb244, 0, none⟩ = some (.int .i64 a0_0) ∧ w'.cell? ⟨gb244, 1, none⟩ = some (.slice A0_1 l0_1.length c0_1) ∧ w'.cell? (ad245.add ((x5_1).toNat * 3)) = some (.int .i64 ((rd_T31 l1 x5_1).f0)) ∧ w'.cell? ⟨(ad245.add ((x5_1).toNat * 3)).block, (ad245.add ((x5_1).toNat * 3)).off + 1, none⟩ = some (.int .i64 ((rd_T31 l1 x5_1).f1)) ∧ w'.cell? ⟨(ad245.add ((x5_1).toNat * 3)).block, (ad245.add ((x5_1).toNat * 3)).off + 2, none⟩ = some (.int .i64 ((rd_T31 l1 x5_1).f2)) ∧ w'.cell? (ad245.add ((x5_1).toNat * 3)) = some (.int .i64 ((rd_T31 l1 x5_1).f0)) ∧ w'.cell? ⟨(ad245.add ((x5_1).toNat * 3)).block, (ad245.add ((x5_1).toNat * 3)).off + 1, none⟩ = some (.int .i64 ((rd_T31 l1 x5_1).f1)) ∧ w'.cell? ⟨(ad245.add ((x5_1).toNat * 3)).block, (ad245.add ((x5_1).toNat * 3)).off + 2, none⟩ = some (.int .i64 ((rd_T31 l1 x5_1).f2))) (ds := []) z15_0 (by kernel_rfl) rfl rfl ⟨ct_ BK244.out 0, ct_ BK244.out 1, ((HB.out.cell (World.block_lt_of_cell? w _ hw245_0)).trans hw245_0), ((HB.out.cell (World.block_lt_of_cell? w _ hw245_1)).trans hw245_1), ((HB.out.cell (World.block_lt_of_cell? w _ hw245_2)).trans hw245_2), ((HB.out.cell (World.block_lt_of_cell? w _ hw247_0)).trans hw247_0), ((HB.out.cell (World.block_lt_of_cell? w _ hw247_1)).trans hw247_1), ((HB.out.cell (World.block_lt_of_cell? w _ hw247_2)).trans hw247_2)⟩ (fun hHeld => ?_); refine with_tabW spec_l4Ok.tab4 spec_l4Ok.bits4 (fun HT_ HW_ => ?_)
      generalize wr.drew = w19 at BK244 HB hx245_0 hx245_1 hx245_2 hx247_0 hx247_1 hx247_2 hHeld ⊢
      refine pu_ 0 13 z15_1 HT_.out ?_
      refine pu_ 1 14 z15_2 HT_.out ?_
      refine pu_ 2 15 z15_3 HT_.out ?_
      refine pu_ 3 16 z15_4 HT_.out ?_
      refine pu_ 5 18 z15_5 HT_.out ?_
      refine tk_ 4 17 z15_6 HT_.out HW_.out hHeld ?_
      refine tk_ 6 19 z15_7 HT_.out HW_.out hHeld ?_
      refine pu_ 7 20 z15_8 HT_.out ?_
      refine pu_ 8 21 z15_9 HT_.out ?_
      refine one_ (i := 9) (N := some 22) z15_10 rfl rfl (one_of HT_.out (by kernel_rfl)) (by decide) (fun K hK => ?_)
      refine go_ Try.func24 #[.int .i64 ((rd_T31 l1 x5_1).f0), .int .i64 0, .int .i64 (wrap64 ((l0_1.length : Int) - 1))] ?_
      with_reducible refine (spec_l1In.calls ((rd_T31 l1 x5_1).f0) 0 (wrap64 ((l0_1.length : Int) - 1)) true _ A7.out).mono ?_
      rintro e w' ⟨rfl, ⟨nd, rfl⟩⟩
      refine ⟨_, rfl, ?_⟩
      refine hK.out _ _ ⟨ct_ BK244.out 0, ct_ BK244.out 1, ((HB.out.cell (World.block_lt_of_cell? w _ hw245_0)).trans hw245_0), ((HB.out.cell (World.block_lt_of_cell? w _ hw245_1)).trans hw245_1), ((HB.out.cell (World.block_lt_of_cell? w _ hw245_2)).trans hw245_2), ((HB.out.cell (World.block_lt_of_cell? w _ hw247_0)).trans hw247_0), ((HB.out.cell (World.block_lt_of_cell? w _ hw247_1)).trans hw247_1), ((HB.out.cell (World.block_lt_of_cell? w _ hw247_2)).trans hw247_2)⟩ (fun hHeld => ?_)
      clear hK K
      refine nm1_ (some 22) ?_
      refine pu_ 10 23 z15_11 HT_.out ?_
      refine pu_ 11 24 z15_12 HT_.out ?_
      refine pu_ 12 25 z15_13 HT_.out ?_
      refine pu_ 13 26 z15_14 HT_.out ?_
      refine pu_ 14 27 z15_15 HT_.out ?_
      refine pu_ 15 28 z15_16 HT_.out ?_
      refine pu_ 17 30 z15_17 HT_.out ?_
      refine tk_ 16 29 z15_18 HT_.out HW_.out hHeld ?_
      refine tk_ 18 31 z15_19 HT_.out HW_.out hHeld ?_
      refine pu_ 19 32 z15_20 HT_.out ?_
      refine pu_ 20 33 z15_21 HT_.out ?_
      refine one_ (i := 21) (N := some 34) z15_22 rfl rfl (one_of HT_.out (by kernel_rfl)) (by decide) (fun K hK => ?_)
      refine go_ Try.func24 #[.int .i64 ((rd_T31 l1 x5_1).f1), .int .i64 0, .int .i64 (wrap64 ((l0_1.length : Int) - 1))] ?_
      with_reducible refine (spec_l1In.calls ((rd_T31 l1 x5_1).f1) 0 (wrap64 ((l0_1.length : Int) - 1)) false _ A9.out).mono ?_
      rintro e w' ⟨rfl, ⟨nd, rfl⟩⟩
      refine ⟨_, rfl, ?_⟩
      refine hK.out _ _ ⟨ct_ BK244.out 0, ct_ BK244.out 1, ((HB.out.cell (World.block_lt_of_cell? w _ hw245_0)).trans hw245_0), ((HB.out.cell (World.block_lt_of_cell? w _ hw245_1)).trans hw245_1), ((HB.out.cell (World.block_lt_of_cell? w _ hw245_2)).trans hw245_2), ((HB.out.cell (World.block_lt_of_cell? w _ hw247_0)).trans hw247_0), ((HB.out.cell (World.block_lt_of_cell? w _ hw247_1)).trans hw247_1), ((HB.out.cell (World.block_lt_of_cell? w _ hw247_2)).trans hw247_2)⟩ (fun hHeld => ?_)
      clear hK K
      refine nm1_ (some 34) ?_
      refine pu_ 22 35 z15_23 HT_.out ?_
      refine pu_ 23 36 z15_24 HT_.out ?_
      refine pu_ 24 37 z15_25 HT_.out ?_
      refine un_ 25 38 z15_26 HT_.out ?_
      refine un_ 26 39 z15_57 HT_.out ?_
      refine un_ 27 40 z15_58 HT_.out ?_
      refine un_ 28 41 z15_59 HT_.out ?_
      refine un_ 29 42 z15_60 HT_.out ?_
      refine un_ 30 43 z15_61 HT_.out ?_
      refine un_ 31 44 z15_62 HT_.out ?_
      refine un_ 32 45 z15_63 HT_.out ?_
      refine un_ 33 46 z15_64 HT_.out ?_
      refine un_ 34 47 z15_65 HT_.out ?_
      refine un_ 35 48 z15_66 HT_.out ?_
      refine un_ 36 49 z15_67 HT_.out ?_
      refine un_ 37 50 z15_68 HT_.out ?_
      refine un_ 38 51 z15_69 HT_.out ?_
      refine un_ 39 52 z15_70 HT_.out ?_
      refine un_ 40 53 z15_41 HT_.out ?_
      refine un_ 41 54 z15_42 HT_.out ?_
      refine un_ 42 55 z15_43 HT_.out ?_
      refine un_ 43 56 z15_44 HT_.out ?_
      refine un_ 44 57 z15_45 HT_.out ?_
      refine un_ 45 58 z15_46 HT_.out ?_
      refine pu_ 46 59 z15_47 HT_.out ?_
      refine pu_ 47 60 z15_48 HT_.out ?_
      refine un_ 48 61 z15_49 HT_.out ?_
      refine un_ 49 62 z15_50 HT_.out ?_
      refine un_ 50 63 z15_51 HT_.out ?_
      refine un_ 51 64 z15_52 HT_.out ?_
      refine un_ 52 65 z15_53 HT_.out ?_
      refine un_ 53 66 z15_54 HT_.out ?_
      refine un_ 54 67 z15_55 HT_.out ?_
      refine pu_ 55 68 z15_56 HT_.out ?_
      refine done_ (done_of HT_.out (by kernel_rfl)) ?_
      try go_wp2
      go_meet
      case rel => exact ⟨_, (true), ns_, H', ⟨by have := HK1.out; first | omega | exact Nat.le_refl _⟩, ⟨nb_ BK244.out⟩, ⟨ne_ HB.out⟩⟩
     subst c10
     rw [if_pos rfl] at H
     by_cases c11 : 0 ≤ ((rd_T31 l1 x5_1).f0)
     rotate_left
     ·rw [if_neg c11] at H
      exact absurd H (by simp)
     rw [if_pos c11] at H
     have c11b0 : decide (0 ≤ ((rd_T31 l1 x5_1).f0)) = true := decide_eq_true c11
     clear c11
     by_cases c12 : ((rd_T31 l1 x5_1).f0) < (l0_1.length : Int)
     rotate_left
     ·rw [if_neg c12] at H
      exact absurd H (by simp)
     rw [if_pos c12] at H
     have c12b0 : decide (((rd_T31 l1 x5_1).f0) < (l0_1.length : Int)) = true := decide_eq_true c12
     clear c12
     by_cases c13 : 0 ≤ ((rd_T31 l1 x5_1).f1)
     rotate_left
     ·rw [if_neg c13] at H
      exact absurd H (by simp)
     rw [if_pos c13] at H
     have c13b0 : decide (0 ≤ ((rd_T31 l1 x5_1).f1)) = true := decide_eq_true c13
     clear c13
     by_cases c14 : ((rd_T31 l1 x5_1).f1) < (l0_1.length : Int)
     rotate_left
     ·rw [if_neg c14] at H
      exact absurd H (by simp)
     rw [if_pos c14] at H
     have c14b0 : decide (((rd_T31 l1 x5_1).f1) < (l0_1.length : Int)) = true := decide_eq_true c14
     clear c14
     by_cases c15 : ((rd_T33 l0_1 ((rd_T31 l1 x5_1).f0)).f1) = ((rd_T33 l0_1 ((rd_T31 l1 x5_1).f1)).f0)
     rotate_left
     ·rw [if_neg c15] at H
      have c15b0 : (((rd_T33 l0_1 ((rd_T31 l1 x5_1).f0)).f1) == ((rd_T33 l0_1 ((rd_T31 l1 x5_1).f1)).f0)) = false := beq_eq_false_iff_ne.mpr c15
      have c15b1 : (((rd_T33 l0_1 ((rd_T31 l1 x5_1).f0)).f1) != ((rd_T33 l0_1 ((rd_T31 l1 x5_1).f1)).f0)) = true := bne_iff_ne.mpr c15
      have H' := Aside0.mk H
      clear H
      try go_wp2
      replace BK244 := Aside0.mk (blk_drew BK244.out)
      replace HB := Aside0.mk (below_drew1 HB.out)
      have p245 : 0 ≤ (x5_1 : Int) := of_decide_eq_true nx_
      have q245 : x5_1 < (l1.length : Int) := of_decide_eq_true nx_
      obtain ⟨ad245, e245, hx245_0, hx245_1, hx245_2⟩ := at_T31 HR1.out x5_1 p245 q245
      have hw245_2 := hx245_2
      have hw245_1 := hx245_1
      have hw245_0 := hx245_0
      cases e245
      replace hx245_0 := hb_ HB.out hx245_0
      replace hx245_1 := hb_ HB.out hx245_1
      replace hx245_2 := hb_ HB.out hx245_2
      replace p245 := eq_true p245
      replace q245 := eq_true q245
      have p247 : 0 ≤ (x5_1 : Int) := of_decide_eq_true nx_
      have q247 : x5_1 < (l1.length : Int) := of_decide_eq_true nx_
      obtain ⟨ad247, e247, hx247_0, hx247_1, hx247_2⟩ := at_T31 HR1.out x5_1 p247 q247
      have hw247_2 := hx247_2
      have hw247_1 := hx247_1
      have hw247_0 := hx247_0
      obtain rfl : ad245 = ad247 := (by injection e247)
      replace hx247_0 := hb_ HB.out hx247_0
      replace hx247_1 := hb_ HB.out hx247_1
      replace hx247_2 := hb_ HB.out hx247_2
      replace p247 := eq_true p247
      replace q247 := eq_true q247
      have p249 : 0 ≤ (x5_1 : Int) := of_decide_eq_true nx_
      have q249 : x5_1 < (l1.length : Int) := of_decide_eq_true nx_
      obtain ⟨ad249, e249, hx249_0, hx249_1, hx249_2⟩ := at_T31 HR1.out x5_1 p249 q249
      have hw249_2 := hx249_2
      have hw249_1 := hx249_1
      have hw249_0 := hx249_0
      obtain rfl : ad245 = ad249 := (by injection e249)
      replace hx249_0 := hb_ HB.out hx249_0
      replace hx249_1 := hb_ HB.out hx249_1
      replace hx249_2 := hb_ HB.out hx249_2
      replace p249 := eq_true p249
      replace q249 := eq_true q249
      have p250 : 0 ≤ (((rd_T31 l1 x5_1).f0) : Int) := of_decide_eq_true nx_
      have q250 : ((rd_T31 l1 x5_1).f0) < (l0_1.length : Int) := of_decide_eq_true nx_
      obtain ⟨ad250, e250, hx250_0, hx250_1, hx250_2, hx250_3, hx250_4⟩ := at_T33 HR0_1.out ((rd_T31 l1 x5_1).f0) p250 q250
      have hw250_4 := hx250_4
      have hw250_3 := hx250_3
      have hw250_2 := hx250_2
      have hw250_1 := hx250_1
      have hw250_0 := hx250_0
      cases e250
      replace hx250_0 := hb_ HB.out hx250_0
      replace hx250_1 := hb_ HB.out hx250_1
      replace hx250_2 := hb_ HB.out hx250_2
      replace hx250_3 := hb_ HB.out hx250_3
      replace hx250_4 := hb_ HB.out hx250_4
      replace p250 := eq_true p250
      replace q250 := eq_true q250
      have p251 : 0 ≤ (x5_1 : Int) := of_decide_eq_true nx_
      have q251 : x5_1 < (l1.length : Int) := of_decide_eq_true nx_
      obtain ⟨ad251, e251, hx251_0, hx251_1, hx251_2⟩ := at_T31 HR1.out x5_1 p251 q251
      have hw251_2 := hx251_2
      have hw251_1 := hx251_1
      have hw251_0 := hx251_0
      obtain rfl : ad245 = ad251 := (by injection e251)
      replace hx251_0 := hb_ HB.out hx251_0
      replace hx251_1 := hb_ HB.out hx251_1
      replace hx251_2 := hb_ HB.out hx251_2
      replace p251 := eq_true p251
      replace q251 := eq_true q251
      have p252 : 0 ≤ (((rd_T31 l1 x5_1).f1) : Int) := of_decide_eq_true nx_
      have q252 : ((rd_T31 l1 x5_1).f1) < (l0_1.length : Int) := of_decide_eq_true nx_
      obtain ⟨ad252, e252, hx252_0, hx252_1, hx252_2, hx252_3, hx252_4⟩ := at_T33 HR0_1.out ((rd_T31 l1 x5_1).f1) p252 q252
      have hw252_4 := hx252_4
      have hw252_3 := hx252_3
      have hw252_2 := hx252_2
      have hw252_1 := hx252_1
      have hw252_0 := hx252_0
      obtain rfl : ad250 = ad252 := (by injection e252)
      replace hx252_0 := hb_ HB.out hx252_0
      replace hx252_1 := hb_ HB.out hx252_1
      replace hx252_2 := hb_ HB.out hx252_2
      replace hx252_3 := hb_ HB.out hx252_3
      replace hx252_4 := hb_ HB.out hx252_4
      replace p252 := eq_true p252
      replace q252 := eq_true q252
      refine start_ (n := 56) (S := fun w' => w'.cell? ⟨gb244, 0, none⟩ = some (.int .i64 a0_0) ∧ w'.cell? ⟨gb244, 1, none⟩ = some (.slice (some ad250) l0_1.length c0_1) ∧ w'.cell? (ad245.add ((x5_1).toNat * 3)) = some (.int .i64 ((rd_T31 l1 x5_1).f0)) ∧ w'.cell? ⟨(ad245.add ((x5_1).toNat * 3)).block, (ad245.add ((x5_1).toNat * 3)).off + 1, none⟩ = some (.int .i64 ((rd_T31 l1 x5_1).f1)) ∧ w'.cell? ⟨(ad245.add ((x5_1).toNat * 3)).block, (ad245.add ((x5_1).toNat * 3)).off + 2, none⟩ = some (.int .i64 ((rd_T31 l1 x5_1).f2)) ∧ w'.cell? (ad245.add ((x5_1).toNat * 3)) = some (.int .i64 ((rd_T31 l1 x5_1).f0)) ∧ w'.cell? ⟨(ad245.add ((x5_1).toNat * 3)).block, (ad245.add ((x5_1).toNat * 3)).off + 1, none⟩ = some (.int .i64 ((rd_T31 l1 x5_1).f1)) ∧ w'.cell? ⟨(ad245.add ((x5_1).toNat * 3)).block, (ad245.add ((x5_1).toNat * 3)).off + 2, none⟩ = some (.int .i64 ((rd_T31 l1 x5_1).f2)) ∧ w'.cell? (ad245.add ((x5_1).toNat * 3)) = some (.int .i64 ((rd_T31 l1 x5_1).f0)) ∧ w'.cell? ⟨(ad245.add ((x5_1).toNat * 3)).block, (ad245.add ((x5_1).toNat * 3)).off + 1, none⟩ = some (.int .i64 ((rd_T31 l1 x5_1).f1)) ∧ w'.cell? ⟨(ad245.add ((x5_1).toNat * 3)).block, (ad245.add ((x5_1).toNat * 3)).off + 2, none⟩ = some (.int .i64 ((rd_T31 l1 x5_1).f2)) ∧ w'.cell? (ad250.add ((((rd_T31 l1 x5_1).f0)).toNat * 5)) = some (.int .i64 ((rd_T33 l0_1 ((rd_T31 l1 x5_1).f0)).f0)) ∧ w'.cell? ⟨(ad250.add ((((rd_T31 l1 x5_1).f0)).toNat * 5)).block, (ad250.add ((((rd_T31 l1 x5_1).f0)).toNat * 5)).off + 1, none⟩ = some (.int .i64 ((rd_T33 l0_1 ((rd_T31 l1 x5_1).f0)).f1)) ∧ w'.cell? ⟨(ad250.add ((((rd_T31 l1 x5_1).f0)).toNat * 5)).block, (ad250.add ((((rd_T31 l1 x5_1).f0)).toNat * 5)).off + 2, none⟩ = some (.int .i64 ((rd_T33 l0_1 ((rd_T31 l1 x5_1).f0)).f2)) ∧ w'.cell? ⟨(ad250.add ((((rd_T31 l1 x5_1).f0)).toNat * 5)).block, (ad250.add ((((rd_T31 l1 x5_1).f0)).toNat * 5)).off + 3, none⟩ = some (.int .i64 ((rd_T33 l0_1 ((rd_T31 l1 x5_1).f0)).f3)) ∧ w'.cell? ⟨(ad250.add ((((rd_T31 l1 x5_1).f0)).toNat * 5)).block, (ad250.add ((((rd_T31 l1 x5_1).f0)).toNat * 5)).off + 4, none⟩ = some (.int .i64 ((rd_T33 l0_1 ((rd_T31 l1 x5_1).f0)).f4)) ∧ w'.cell? (ad245.add ((x5_1).toNat * 3)) = some (.int .i64 ((rd_T31 l1 x5_1).f0)) ∧ w'.cell? ⟨(ad245.add ((x5_1).toNat * 3)).block, (ad245.add ((x5_1).toNat * 3)).off + 1, none⟩ = some (.int .i64 ((rd_T31 l1 x5_1).f1)) ∧ w'.cell? ⟨(ad245.add ((x5_1).toNat * 3)).block, (ad245.add ((x5_1).toNat * 3)).off + 2, none⟩ = some (.int .i64 ((rd_T31 l1 x5_1).f2)) ∧ w'.cell? (ad250.add ((((rd_T31 l1 x5_1).f1)).toNat * 5)) = some (.int .i64 ((rd_T33 l0_1 ((rd_T31 l1 x5_1).f1)).f0)) ∧ w'.cell? ⟨(ad250.add ((((rd_T31 l1 x5_1).f1)).toNat * 5)).block, (ad250.add ((((rd_T31 l1 x5_1).f1)).toNat * 5)).off + 1, none⟩ = some (.int .i64 ((rd_T33 l0_1 ((rd_T31 l1 x5_1).f1)).f1)) ∧ w'.cell? ⟨(ad250.add ((((rd_T31 l1 x5_1).f1)).toNat * 5)).block, (ad250.add ((((rd_T31 l1 x5_1).f1)).toNat * 5)).off + 2, none⟩ = some (.int .i64 ((rd_T33 l0_1 ((rd_T31 l1 x5_1).f1)).f2)) ∧ w'.cell? ⟨(ad250.add ((((rd_T31 l1 x5_1).f1)).toNat * 5)).block, (ad250.add ((((rd_T31 l1 x5_1).f1)).toNat * 5)).off + 3, none⟩ = some (.int .i64 ((rd_T33 l0_1 ((rd_T31 l1 x5_1).f1)).f3)) ∧ w'.cell? ⟨(ad250.add ((((rd_T31 l1 x5_1).f1)).toNat * 5)).block, (ad250.add ((((rd_T31 l1 x5_1).f1)).toNat * 5)).off + 4, none⟩ = some (.int .i64 ((rd_T33 l0_1 ((rd_T31 l1 x5_1).f1)).f4))) (ds := []) z15_0 (by kernel_rfl) rfl rfl ⟨ct_ BK244.out 0, ct_ BK244.out 1, ((HB.out.cell (World.block_lt_of_cell? w _ hw245_0)).trans hw245_0), ((HB.out.cell (World.block_lt_of_cell? w _ hw245_1)).trans hw245_1), ((HB.out.cell (World.block_lt_of_cell? w _ hw245_2)).trans hw245_2), ((HB.out.cell (World.block_lt_of_cell? w _ hw247_0)).trans hw247_0), ((HB.out.cell (World.block_lt_of_cell? w _ hw247_1)).trans hw247_1), ((HB.out.cell (World.block_lt_of_cell? w _ hw247_2)).trans hw247_2), ((HB.out.cell (World.block_lt_of_cell? w _ hw249_0)).trans hw249_0), ((HB.out.cell (World.block_lt_of_cell? w _ hw249_1)).trans hw249_1), ((HB.out.cell (World.block_lt_of_cell? w _ hw249_2)).trans hw249_2), ((HB.out.cell (World.block_lt_of_cell? w _ hw250_0)).trans hw250_0), ((HB.out.cell (World.block_lt_of_cell? w _ hw250_1)).trans hw250_1), ((HB.out.cell (World.block_lt_of_cell? w _ hw250_2)).trans hw250_2), ((HB.out.cell (World.block_lt_of_cell? w _ hw250_3)).trans hw250_3), ((HB.out.cell (World.block_lt_of_cell? w _ hw250_4)).trans hw250_4), ((HB.out.cell (World.block_lt_of_cell? w _ hw251_0)).trans hw251_0), ((HB.out.cell (World.block_lt_of_cell? w _ hw251_1)).trans hw251_1), ((HB.out.cell (World.block_lt_of_cell? w _ hw251_2)).trans hw251_2), ((HB.out.cell (World.block_lt_of_cell? w _ hw252_0)).trans hw252_0), ((HB.out.cell (World.block_lt_of_cell? w _ hw252_1)).trans hw252_1), ((HB.out.cell (World.block_lt_of_cell? w _ hw252_2)).trans hw252_2), ((HB.out.cell (World.block_lt_of_cell? w _ hw252_3)).trans hw252_3), ((HB.out.cell (World.block_lt_of_cell? w _ hw252_4)).trans hw252_4)⟩ (fun hHeld => ?_); refine with_tabW spec_l4Ok.tab4 spec_l4Ok.bits4 (fun HT_ HW_ => ?_)
      generalize wr.drew = w18 at BK244 HB hx245_0 hx245_1 hx245_2 hx247_0 hx247_1 hx247_2 hx249_0 hx249_1 hx249_2 hx250_0 hx250_1 hx250_2 hx250_3 hx250_4 hx251_0 hx251_1 hx251_2 hx252_0 hx252_1 hx252_2 hx252_3 hx252_4 hHeld ⊢
      refine pu_ 0 13 z15_1 HT_.out ?_
      refine pu_ 1 14 z15_2 HT_.out ?_
      refine pu_ 2 15 z15_3 HT_.out ?_
      refine pu_ 3 16 z15_4 HT_.out ?_
      refine pu_ 5 18 z15_5 HT_.out ?_
      refine tk_ 4 17 z15_6 HT_.out HW_.out hHeld ?_
      refine tk_ 6 19 z15_7 HT_.out HW_.out hHeld ?_
      refine pu_ 7 20 z15_8 HT_.out ?_
      refine pu_ 8 21 z15_9 HT_.out ?_
      refine one_ (i := 9) (N := some 22) z15_10 rfl rfl (one_of HT_.out (by kernel_rfl)) (by decide) (fun K hK => ?_)
      refine go_ Try.func24 #[.int .i64 ((rd_T31 l1 x5_1).f0), .int .i64 0, .int .i64 (wrap64 ((l0_1.length : Int) - 1))] ?_
      with_reducible refine (spec_l1In.calls ((rd_T31 l1 x5_1).f0) 0 (wrap64 ((l0_1.length : Int) - 1)) true _ A7.out).mono ?_
      rintro e w' ⟨rfl, ⟨nd, rfl⟩⟩
      refine ⟨_, rfl, ?_⟩
      refine hK.out _ _ ⟨ct_ BK244.out 0, ct_ BK244.out 1, ((HB.out.cell (World.block_lt_of_cell? w _ hw245_0)).trans hw245_0), ((HB.out.cell (World.block_lt_of_cell? w _ hw245_1)).trans hw245_1), ((HB.out.cell (World.block_lt_of_cell? w _ hw245_2)).trans hw245_2), ((HB.out.cell (World.block_lt_of_cell? w _ hw247_0)).trans hw247_0), ((HB.out.cell (World.block_lt_of_cell? w _ hw247_1)).trans hw247_1), ((HB.out.cell (World.block_lt_of_cell? w _ hw247_2)).trans hw247_2), ((HB.out.cell (World.block_lt_of_cell? w _ hw249_0)).trans hw249_0), ((HB.out.cell (World.block_lt_of_cell? w _ hw249_1)).trans hw249_1), ((HB.out.cell (World.block_lt_of_cell? w _ hw249_2)).trans hw249_2), ((HB.out.cell (World.block_lt_of_cell? w _ hw250_0)).trans hw250_0), ((HB.out.cell (World.block_lt_of_cell? w _ hw250_1)).trans hw250_1), ((HB.out.cell (World.block_lt_of_cell? w _ hw250_2)).trans hw250_2), ((HB.out.cell (World.block_lt_of_cell? w _ hw250_3)).trans hw250_3), ((HB.out.cell (World.block_lt_of_cell? w _ hw250_4)).trans hw250_4), ((HB.out.cell (World.block_lt_of_cell? w _ hw251_0)).trans hw251_0), ((HB.out.cell (World.block_lt_of_cell? w _ hw251_1)).trans hw251_1), ((HB.out.cell (World.block_lt_of_cell? w _ hw251_2)).trans hw251_2), ((HB.out.cell (World.block_lt_of_cell? w _ hw252_0)).trans hw252_0), ((HB.out.cell (World.block_lt_of_cell? w _ hw252_1)).trans hw252_1), ((HB.out.cell (World.block_lt_of_cell? w _ hw252_2)).trans hw252_2), ((HB.out.cell (World.block_lt_of_cell? w _ hw252_3)).trans hw252_3), ((HB.out.cell (World.block_lt_of_cell? w _ hw252_4)).trans hw252_4)⟩ (fun hHeld => ?_)
      clear hK K
      refine nm1_ (some 22) ?_
      refine pu_ 10 23 z15_11 HT_.out ?_
      refine pu_ 11 24 z15_12 HT_.out ?_
      refine pu_ 12 25 z15_13 HT_.out ?_
      refine pu_ 13 26 z15_14 HT_.out ?_
      refine pu_ 14 27 z15_15 HT_.out ?_
      refine pu_ 15 28 z15_16 HT_.out ?_
      refine pu_ 17 30 z15_17 HT_.out ?_
      refine tk_ 16 29 z15_18 HT_.out HW_.out hHeld ?_
      refine tk_ 18 31 z15_19 HT_.out HW_.out hHeld ?_
      refine pu_ 19 32 z15_20 HT_.out ?_
      refine pu_ 20 33 z15_21 HT_.out ?_
      refine one_ (i := 21) (N := some 34) z15_22 rfl rfl (one_of HT_.out (by kernel_rfl)) (by decide) (fun K hK => ?_)
      refine go_ Try.func24 #[.int .i64 ((rd_T31 l1 x5_1).f1), .int .i64 0, .int .i64 (wrap64 ((l0_1.length : Int) - 1))] ?_
      with_reducible refine (spec_l1In.calls ((rd_T31 l1 x5_1).f1) 0 (wrap64 ((l0_1.length : Int) - 1)) true _ A9.out).mono ?_
      rintro e w' ⟨rfl, ⟨nd, rfl⟩⟩
      refine ⟨_, rfl, ?_⟩
      refine hK.out _ _ ⟨ct_ BK244.out 0, ct_ BK244.out 1, ((HB.out.cell (World.block_lt_of_cell? w _ hw245_0)).trans hw245_0), ((HB.out.cell (World.block_lt_of_cell? w _ hw245_1)).trans hw245_1), ((HB.out.cell (World.block_lt_of_cell? w _ hw245_2)).trans hw245_2), ((HB.out.cell (World.block_lt_of_cell? w _ hw247_0)).trans hw247_0), ((HB.out.cell (World.block_lt_of_cell? w _ hw247_1)).trans hw247_1), ((HB.out.cell (World.block_lt_of_cell? w _ hw247_2)).trans hw247_2), ((HB.out.cell (World.block_lt_of_cell? w _ hw249_0)).trans hw249_0), ((HB.out.cell (World.block_lt_of_cell? w _ hw249_1)).trans hw249_1), ((HB.out.cell (World.block_lt_of_cell? w _ hw249_2)).trans hw249_2), ((HB.out.cell (World.block_lt_of_cell? w _ hw250_0)).trans hw250_0), ((HB.out.cell (World.block_lt_of_cell? w _ hw250_1)).trans hw250_1), ((HB.out.cell (World.block_lt_of_cell? w _ hw250_2)).trans hw250_2), ((HB.out.cell (World.block_lt_of_cell? w _ hw250_3)).trans hw250_3), ((HB.out.cell (World.block_lt_of_cell? w _ hw250_4)).trans hw250_4), ((HB.out.cell (World.block_lt_of_cell? w _ hw251_0)).trans hw251_0), ((HB.out.cell (World.block_lt_of_cell? w _ hw251_1)).trans hw251_1), ((HB.out.cell (World.block_lt_of_cell? w _ hw251_2)).trans hw251_2), ((HB.out.cell (World.block_lt_of_cell? w _ hw252_0)).trans hw252_0), ((HB.out.cell (World.block_lt_of_cell? w _ hw252_1)).trans hw252_1), ((HB.out.cell (World.block_lt_of_cell? w _ hw252_2)).trans hw252_2), ((HB.out.cell (World.block_lt_of_cell? w _ hw252_3)).trans hw252_3), ((HB.out.cell (World.block_lt_of_cell? w _ hw252_4)).trans hw252_4)⟩ (fun hHeld => ?_)
      clear hK K
      refine nm1_ (some 34) ?_
      refine pu_ 22 35 z15_23 HT_.out ?_
      refine pu_ 23 36 z15_24 HT_.out ?_
      refine pu_ 24 37 z15_25 HT_.out ?_
      refine pu_ 25 38 z15_26 HT_.out ?_
      refine pu_ 27 40 z15_27 HT_.out ?_
      refine pu_ 28 41 z15_28 HT_.out ?_
      refine pu_ 29 42 z15_29 HT_.out ?_
      refine pu_ 30 43 z15_30 HT_.out ?_
      refine pu_ 35 48 z15_31 HT_.out ?_
      refine pu_ 37 50 z15_32 HT_.out ?_
      refine pu_ 38 51 z15_33 HT_.out ?_
      refine pu_ 39 52 z15_34 HT_.out ?_
      refine pu_ 40 53 z15_35 HT_.out ?_
      refine tk_ 26 39 z15_36 HT_.out HW_.out hHeld ?_
      refine tk_ 31 44 z15_37 HT_.out HW_.out hHeld ?_
      refine pu_ 32 45 z15_38 HT_.out ?_
      refine pu_ 33 46 z15_39 HT_.out ?_
      refine tk_ 34 47 z15_40 HT_.out HW_.out hHeld ?_
      refine tk_ 36 49 z15_41 HT_.out HW_.out hHeld ?_
      refine tk_ 41 54 z15_42 HT_.out HW_.out hHeld ?_
      refine pu_ 42 55 z15_43 HT_.out ?_
      refine pu_ 43 56 z15_44 HT_.out ?_
      refine tk_ 44 57 z15_45 HT_.out HW_.out hHeld ?_
      refine pu_ 45 58 z15_46 HT_.out ?_
      refine pu_ 46 59 z15_47 HT_.out ?_
      refine pu_ 47 60 z15_48 HT_.out ?_
      refine un_ 48 61 z15_49 HT_.out ?_
      refine un_ 49 62 z15_50 HT_.out ?_
      refine un_ 50 63 z15_51 HT_.out ?_
      refine un_ 51 64 z15_52 HT_.out ?_
      refine un_ 52 65 z15_53 HT_.out ?_
      refine un_ 53 66 z15_54 HT_.out ?_
      refine un_ 54 67 z15_55 HT_.out ?_
      refine pu_ 55 68 z15_56 HT_.out ?_
      refine done_ (done_of HT_.out (by kernel_rfl)) ?_
      try go_wp2
      go_meet
      case rel => exact ⟨_, (true), ns_, H', ⟨by have := HK1.out; first | omega | exact Nat.le_refl _⟩, ⟨nb_ BK244.out⟩, ⟨ne_ HB.out⟩⟩
     rw [if_pos c15] at H
     have c15b0 : (((rd_T33 l0_1 ((rd_T31 l1 x5_1).f0)).f1) == ((rd_T33 l0_1 ((rd_T31 l1 x5_1).f1)).f0)) = true := beq_iff_eq.mpr c15
     have c15b1 : (((rd_T33 l0_1 ((rd_T31 l1 x5_1).f0)).f1) != ((rd_T33 l0_1 ((rd_T31 l1 x5_1).f1)).f0)) = false := bne_eq_false_iff_eq.mpr c15
     clear c15
     replace H := Option.bind_eq_some_iff.mp H
     obtain ⟨t254, A160, H⟩ := H
     replace H : (spec_l4Ok.j1 k1 l1 x5_1 (!t254) a0_0 l0_1) = some r := H
     have A16 := Aside0.mk A160
     clear A160
     have H' := Aside0.mk H
     clear H
     try go_wp2
     replace BK244 := Aside0.mk (blk_drew BK244.out)
     replace HB := Aside0.mk (below_drew1 HB.out)
     have p245 : 0 ≤ (x5_1 : Int) := of_decide_eq_true nx_
     have q245 : x5_1 < (l1.length : Int) := of_decide_eq_true nx_
     obtain ⟨ad245, e245, hx245_0, hx245_1, hx245_2⟩ := at_T31 HR1.out x5_1 p245 q245
     have hw245_2 := hx245_2
     have hw245_1 := hx245_1
     have hw245_0 := hx245_0
     cases e245
     replace hx245_0 := hb_ HB.out hx245_0
     replace hx245_1 := hb_ HB.out hx245_1
     replace hx245_2 := hb_ HB.out hx245_2
     replace p245 := eq_true p245
     replace q245 := eq_true q245
     have p247 : 0 ≤ (x5_1 : Int) := of_decide_eq_true nx_
     have q247 : x5_1 < (l1.length : Int) := of_decide_eq_true nx_
     obtain ⟨ad247, e247, hx247_0, hx247_1, hx247_2⟩ := at_T31 HR1.out x5_1 p247 q247
     have hw247_2 := hx247_2
     have hw247_1 := hx247_1
     have hw247_0 := hx247_0
     obtain rfl : ad245 = ad247 := (by injection e247)
     replace hx247_0 := hb_ HB.out hx247_0
     replace hx247_1 := hb_ HB.out hx247_1
     replace hx247_2 := hb_ HB.out hx247_2
     replace p247 := eq_true p247
     replace q247 := eq_true q247
     have p249 : 0 ≤ (x5_1 : Int) := of_decide_eq_true nx_
     have q249 : x5_1 < (l1.length : Int) := of_decide_eq_true nx_
     obtain ⟨ad249, e249, hx249_0, hx249_1, hx249_2⟩ := at_T31 HR1.out x5_1 p249 q249
     have hw249_2 := hx249_2
     have hw249_1 := hx249_1
     have hw249_0 := hx249_0
     obtain rfl : ad245 = ad249 := (by injection e249)
     replace hx249_0 := hb_ HB.out hx249_0
     replace hx249_1 := hb_ HB.out hx249_1
     replace hx249_2 := hb_ HB.out hx249_2
     replace p249 := eq_true p249
     replace q249 := eq_true q249
     have p250 : 0 ≤ (((rd_T31 l1 x5_1).f0) : Int) := of_decide_eq_true nx_
     have q250 : ((rd_T31 l1 x5_1).f0) < (l0_1.length : Int) := of_decide_eq_true nx_
     obtain ⟨ad250, e250, hx250_0, hx250_1, hx250_2, hx250_3, hx250_4⟩ := at_T33 HR0_1.out ((rd_T31 l1 x5_1).f0) p250 q250
     have hw250_4 := hx250_4
     have hw250_3 := hx250_3
     have hw250_2 := hx250_2
     have hw250_1 := hx250_1
     have hw250_0 := hx250_0
     cases e250
     replace hx250_0 := hb_ HB.out hx250_0
     replace hx250_1 := hb_ HB.out hx250_1
     replace hx250_2 := hb_ HB.out hx250_2
     replace hx250_3 := hb_ HB.out hx250_3
     replace hx250_4 := hb_ HB.out hx250_4
     replace p250 := eq_true p250
     replace q250 := eq_true q250
     have p251 : 0 ≤ (x5_1 : Int) := of_decide_eq_true nx_
     have q251 : x5_1 < (l1.length : Int) := of_decide_eq_true nx_
     obtain ⟨ad251, e251, hx251_0, hx251_1, hx251_2⟩ := at_T31 HR1.out x5_1 p251 q251
     have hw251_2 := hx251_2
     have hw251_1 := hx251_1
     have hw251_0 := hx251_0
     obtain rfl : ad245 = ad251 := (by injection e251)
     replace hx251_0 := hb_ HB.out hx251_0
     replace hx251_1 := hb_ HB.out hx251_1
     replace hx251_2 := hb_ HB.out hx251_2
     replace p251 := eq_true p251
     replace q251 := eq_true q251
     have p252 : 0 ≤ (((rd_T31 l1 x5_1).f1) : Int) := of_decide_eq_true nx_
     have q252 : ((rd_T31 l1 x5_1).f1) < (l0_1.length : Int) := of_decide_eq_true nx_
     obtain ⟨ad252, e252, hx252_0, hx252_1, hx252_2, hx252_3, hx252_4⟩ := at_T33 HR0_1.out ((rd_T31 l1 x5_1).f1) p252 q252
     have hw252_4 := hx252_4
     have hw252_3 := hx252_3
     have hw252_2 := hx252_2
     have hw252_1 := hx252_1
     have hw252_0 := hx252_0
     obtain rfl : ad250 = ad252 := (by injection e252)
     replace hx252_0 := hb_ HB.out hx252_0
     replace hx252_1 := hb_ HB.out hx252_1
     replace hx252_2 := hb_ HB.out hx252_2
     replace hx252_3 := hb_ HB.out hx252_3
     replace hx252_4 := hb_ HB.out hx252_4
     replace p252 := eq_true p252
     replace q252 := eq_true q252
     have p253 : 0 ≤ (x5_1 : Int) := of_decide_eq_true nx_
     have q253 : x5_1 < (l1.length : Int) := of_decide_eq_true nx_
     obtain ⟨ad253, e253, hx253_0, hx253_1, hx253_2⟩ := at_T31 HR1.out x5_1 p253 q253
     have hw253_2 := hx253_2
     have hw253_1 := hx253_1
     have hw253_0 := hx253_0
     obtain rfl : ad245 = ad253 := (by injection e253)
     replace hx253_0 := hb_ HB.out hx253_0
     replace hx253_1 := hb_ HB.out hx253_1
     replace hx253_2 := hb_ HB.out hx253_2
     replace p253 := eq_true p253
     replace q253 := eq_true q253
     refine start_ (n := 56) (S := fun w' => w'.cell? ⟨gb244, 0, none⟩ = some (.int .i64 a0_0) ∧ w'.cell? ⟨gb244, 1, none⟩ = some (.slice (some ad250) l0_1.length c0_1) ∧ w'.cell? (ad245.add ((x5_1).toNat * 3)) = some (.int .i64 ((rd_T31 l1 x5_1).f0)) ∧ w'.cell? ⟨(ad245.add ((x5_1).toNat * 3)).block, (ad245.add ((x5_1).toNat * 3)).off + 1, none⟩ = some (.int .i64 ((rd_T31 l1 x5_1).f1)) ∧ w'.cell? ⟨(ad245.add ((x5_1).toNat * 3)).block, (ad245.add ((x5_1).toNat * 3)).off + 2, none⟩ = some (.int .i64 ((rd_T31 l1 x5_1).f2)) ∧ w'.cell? (ad245.add ((x5_1).toNat * 3)) = some (.int .i64 ((rd_T31 l1 x5_1).f0)) ∧ w'.cell? ⟨(ad245.add ((x5_1).toNat * 3)).block, (ad245.add ((x5_1).toNat * 3)).off + 1, none⟩ = some (.int .i64 ((rd_T31 l1 x5_1).f1)) ∧ w'.cell? ⟨(ad245.add ((x5_1).toNat * 3)).block, (ad245.add ((x5_1).toNat * 3)).off + 2, none⟩ = some (.int .i64 ((rd_T31 l1 x5_1).f2)) ∧ w'.cell? (ad245.add ((x5_1).toNat * 3)) = some (.int .i64 ((rd_T31 l1 x5_1).f0)) ∧ w'.cell? ⟨(ad245.add ((x5_1).toNat * 3)).block, (ad245.add ((x5_1).toNat * 3)).off + 1, none⟩ = some (.int .i64 ((rd_T31 l1 x5_1).f1)) ∧ w'.cell? ⟨(ad245.add ((x5_1).toNat * 3)).block, (ad245.add ((x5_1).toNat * 3)).off + 2, none⟩ = some (.int .i64 ((rd_T31 l1 x5_1).f2)) ∧ w'.cell? (ad250.add ((((rd_T31 l1 x5_1).f0)).toNat * 5)) = some (.int .i64 ((rd_T33 l0_1 ((rd_T31 l1 x5_1).f0)).f0)) ∧ w'.cell? ⟨(ad250.add ((((rd_T31 l1 x5_1).f0)).toNat * 5)).block, (ad250.add ((((rd_T31 l1 x5_1).f0)).toNat * 5)).off + 1, none⟩ = some (.int .i64 ((rd_T33 l0_1 ((rd_T31 l1 x5_1).f0)).f1)) ∧ w'.cell? ⟨(ad250.add ((((rd_T31 l1 x5_1).f0)).toNat * 5)).block, (ad250.add ((((rd_T31 l1 x5_1).f0)).toNat * 5)).off + 2, none⟩ = some (.int .i64 ((rd_T33 l0_1 ((rd_T31 l1 x5_1).f0)).f2)) ∧ w'.cell? ⟨(ad250.add ((((rd_T31 l1 x5_1).f0)).toNat * 5)).block, (ad250.add ((((rd_T31 l1 x5_1).f0)).toNat * 5)).off + 3, none⟩ = some (.int .i64 ((rd_T33 l0_1 ((rd_T31 l1 x5_1).f0)).f3)) ∧ w'.cell? ⟨(ad250.add ((((rd_T31 l1 x5_1).f0)).toNat * 5)).block, (ad250.add ((((rd_T31 l1 x5_1).f0)).toNat * 5)).off + 4, none⟩ = some (.int .i64 ((rd_T33 l0_1 ((rd_T31 l1 x5_1).f0)).f4)) ∧ w'.cell? (ad245.add ((x5_1).toNat * 3)) = some (.int .i64 ((rd_T31 l1 x5_1).f0)) ∧ w'.cell? ⟨(ad245.add ((x5_1).toNat * 3)).block, (ad245.add ((x5_1).toNat * 3)).off + 1, none⟩ = some (.int .i64 ((rd_T31 l1 x5_1).f1)) ∧ w'.cell? ⟨(ad245.add ((x5_1).toNat * 3)).block, (ad245.add ((x5_1).toNat * 3)).off + 2, none⟩ = some (.int .i64 ((rd_T31 l1 x5_1).f2)) ∧ w'.cell? (ad250.add ((((rd_T31 l1 x5_1).f1)).toNat * 5)) = some (.int .i64 ((rd_T33 l0_1 ((rd_T31 l1 x5_1).f1)).f0)) ∧ w'.cell? ⟨(ad250.add ((((rd_T31 l1 x5_1).f1)).toNat * 5)).block, (ad250.add ((((rd_T31 l1 x5_1).f1)).toNat * 5)).off + 1, none⟩ = some (.int .i64 ((rd_T33 l0_1 ((rd_T31 l1 x5_1).f1)).f1)) ∧ w'.cell? ⟨(ad250.add ((((rd_T31 l1 x5_1).f1)).toNat * 5)).block, (ad250.add ((((rd_T31 l1 x5_1).f1)).toNat * 5)).off + 2, none⟩ = some (.int .i64 ((rd_T33 l0_1 ((rd_T31 l1 x5_1).f1)).f2)) ∧ w'.cell? ⟨(ad250.add ((((rd_T31 l1 x5_1).f1)).toNat * 5)).block, (ad250.add ((((rd_T31 l1 x5_1).f1)).toNat * 5)).off + 3, none⟩ = some (.int .i64 ((rd_T33 l0_1 ((rd_T31 l1 x5_1).f1)).f3)) ∧ w'.cell? ⟨(ad250.add ((((rd_T31 l1 x5_1).f1)).toNat * 5)).block, (ad250.add ((((rd_T31 l1 x5_1).f1)).toNat * 5)).off + 4, none⟩ = some (.int .i64 ((rd_T33 l0_1 ((rd_T31 l1 x5_1).f1)).f4)) ∧ w'.cell? (ad245.add ((x5_1).toNat * 3)) = some (.int .i64 ((rd_T31 l1 x5_1).f0)) ∧ w'.cell? ⟨(ad245.add ((x5_1).toNat * 3)).block, (ad245.add ((x5_1).toNat * 3)).off + 1, none⟩ = some (.int .i64 ((rd_T31 l1 x5_1).f1)) ∧ w'.cell? ⟨(ad245.add ((x5_1).toNat * 3)).block, (ad245.add ((x5_1).toNat * 3)).off + 2, none⟩ = some (.int .i64 ((rd_T31 l1 x5_1).f2))) (ds := []) z15_0 (by kernel_rfl) rfl rfl ⟨ct_ BK244.out 0, ct_ BK244.out 1, ((HB.out.cell (World.block_lt_of_cell? w _ hw245_0)).trans hw245_0), ((HB.out.cell (World.block_lt_of_cell? w _ hw245_1)).trans hw245_1), ((HB.out.cell (World.block_lt_of_cell? w _ hw245_2)).trans hw245_2), ((HB.out.cell (World.block_lt_of_cell? w _ hw247_0)).trans hw247_0), ((HB.out.cell (World.block_lt_of_cell? w _ hw247_1)).trans hw247_1), ((HB.out.cell (World.block_lt_of_cell? w _ hw247_2)).trans hw247_2), ((HB.out.cell (World.block_lt_of_cell? w _ hw249_0)).trans hw249_0), ((HB.out.cell (World.block_lt_of_cell? w _ hw249_1)).trans hw249_1), ((HB.out.cell (World.block_lt_of_cell? w _ hw249_2)).trans hw249_2), ((HB.out.cell (World.block_lt_of_cell? w _ hw250_0)).trans hw250_0), ((HB.out.cell (World.block_lt_of_cell? w _ hw250_1)).trans hw250_1), ((HB.out.cell (World.block_lt_of_cell? w _ hw250_2)).trans hw250_2), ((HB.out.cell (World.block_lt_of_cell? w _ hw250_3)).trans hw250_3), ((HB.out.cell (World.block_lt_of_cell? w _ hw250_4)).trans hw250_4), ((HB.out.cell (World.block_lt_of_cell? w _ hw251_0)).trans hw251_0), ((HB.out.cell (World.block_lt_of_cell? w _ hw251_1)).trans hw251_1), ((HB.out.cell (World.block_lt_of_cell? w _ hw251_2)).trans hw251_2), ((HB.out.cell (World.block_lt_of_cell? w _ hw252_0)).trans hw252_0), ((HB.out.cell (World.block_lt_of_cell? w _ hw252_1)).trans hw252_1), ((HB.out.cell (World.block_lt_of_cell? w _ hw252_2)).trans hw252_2), ((HB.out.cell (World.block_lt_of_cell? w _ hw252_3)).trans hw252_3), ((HB.out.cell (World.block_lt_of_cell? w _ hw252_4)).trans hw252_4), ((HB.out.cell (World.block_lt_of_cell? w _ hw253_0)).trans hw253_0), ((HB.out.cell (World.block_lt_of_cell? w _ hw253_1)).trans hw253_1), ((HB.out.cell (World.block_lt_of_cell? w _ hw253_2)).trans hw253_2)⟩ (fun hHeld => ?_); refine with_tabW spec_l4Ok.tab4 spec_l4Ok.bits4 (fun HT_ HW_ => ?_)
     generalize wr.drew = w17 at BK244 HB hx245_0 hx245_1 hx245_2 hx247_0 hx247_1 hx247_2 hx249_0 hx249_1 hx249_2 hx250_0 hx250_1 hx250_2 hx250_3 hx250_4 hx251_0 hx251_1 hx251_2 hx252_0 hx252_1 hx252_2 hx252_3 hx252_4 hx253_0 hx253_1 hx253_2 hHeld ⊢
     refine pu_ 0 13 z15_1 HT_.out ?_
     refine pu_ 1 14 z15_2 HT_.out ?_
     refine pu_ 2 15 z15_3 HT_.out ?_
     refine pu_ 3 16 z15_4 HT_.out ?_
     refine pu_ 5 18 z15_5 HT_.out ?_
     refine tk_ 4 17 z15_6 HT_.out HW_.out hHeld ?_
     refine tk_ 6 19 z15_7 HT_.out HW_.out hHeld ?_
     refine pu_ 7 20 z15_8 HT_.out ?_
     refine pu_ 8 21 z15_9 HT_.out ?_
     refine one_ (i := 9) (N := some 22) z15_10 rfl rfl (one_of HT_.out (by kernel_rfl)) (by decide) (fun K hK => ?_)
     refine go_ Try.func24 #[.int .i64 ((rd_T31 l1 x5_1).f0), .int .i64 0, .int .i64 (wrap64 ((l0_1.length : Int) - 1))] ?_
     with_reducible refine (spec_l1In.calls ((rd_T31 l1 x5_1).f0) 0 (wrap64 ((l0_1.length : Int) - 1)) true _ A7.out).mono ?_
     rintro e w' ⟨rfl, ⟨nd, rfl⟩⟩
     refine ⟨_, rfl, ?_⟩
     refine hK.out _ _ ⟨ct_ BK244.out 0, ct_ BK244.out 1, ((HB.out.cell (World.block_lt_of_cell? w _ hw245_0)).trans hw245_0), ((HB.out.cell (World.block_lt_of_cell? w _ hw245_1)).trans hw245_1), ((HB.out.cell (World.block_lt_of_cell? w _ hw245_2)).trans hw245_2), ((HB.out.cell (World.block_lt_of_cell? w _ hw247_0)).trans hw247_0), ((HB.out.cell (World.block_lt_of_cell? w _ hw247_1)).trans hw247_1), ((HB.out.cell (World.block_lt_of_cell? w _ hw247_2)).trans hw247_2), ((HB.out.cell (World.block_lt_of_cell? w _ hw249_0)).trans hw249_0), ((HB.out.cell (World.block_lt_of_cell? w _ hw249_1)).trans hw249_1), ((HB.out.cell (World.block_lt_of_cell? w _ hw249_2)).trans hw249_2), ((HB.out.cell (World.block_lt_of_cell? w _ hw250_0)).trans hw250_0), ((HB.out.cell (World.block_lt_of_cell? w _ hw250_1)).trans hw250_1), ((HB.out.cell (World.block_lt_of_cell? w _ hw250_2)).trans hw250_2), ((HB.out.cell (World.block_lt_of_cell? w _ hw250_3)).trans hw250_3), ((HB.out.cell (World.block_lt_of_cell? w _ hw250_4)).trans hw250_4), ((HB.out.cell (World.block_lt_of_cell? w _ hw251_0)).trans hw251_0), ((HB.out.cell (World.block_lt_of_cell? w _ hw251_1)).trans hw251_1), ((HB.out.cell (World.block_lt_of_cell? w _ hw251_2)).trans hw251_2), ((HB.out.cell (World.block_lt_of_cell? w _ hw252_0)).trans hw252_0), ((HB.out.cell (World.block_lt_of_cell? w _ hw252_1)).trans hw252_1), ((HB.out.cell (World.block_lt_of_cell? w _ hw252_2)).trans hw252_2), ((HB.out.cell (World.block_lt_of_cell? w _ hw252_3)).trans hw252_3), ((HB.out.cell (World.block_lt_of_cell? w _ hw252_4)).trans hw252_4), ((HB.out.cell (World.block_lt_of_cell? w _ hw253_0)).trans hw253_0), ((HB.out.cell (World.block_lt_of_cell? w _ hw253_1)).trans hw253_1), ((HB.out.cell (World.block_lt_of_cell? w _ hw253_2)).trans hw253_2)⟩ (fun hHeld => ?_)
     clear hK K
     refine nm1_ (some 22) ?_
     refine pu_ 10 23 z15_11 HT_.out ?_
     refine pu_ 11 24 z15_12 HT_.out ?_
     refine pu_ 12 25 z15_13 HT_.out ?_
     refine pu_ 13 26 z15_14 HT_.out ?_
     refine pu_ 14 27 z15_15 HT_.out ?_
     refine pu_ 15 28 z15_16 HT_.out ?_
     refine pu_ 17 30 z15_17 HT_.out ?_
     refine tk_ 16 29 z15_18 HT_.out HW_.out hHeld ?_
     refine tk_ 18 31 z15_19 HT_.out HW_.out hHeld ?_
     refine pu_ 19 32 z15_20 HT_.out ?_
     refine pu_ 20 33 z15_21 HT_.out ?_
     refine one_ (i := 21) (N := some 34) z15_22 rfl rfl (one_of HT_.out (by kernel_rfl)) (by decide) (fun K hK => ?_)
     refine go_ Try.func24 #[.int .i64 ((rd_T31 l1 x5_1).f1), .int .i64 0, .int .i64 (wrap64 ((l0_1.length : Int) - 1))] ?_
     with_reducible refine (spec_l1In.calls ((rd_T31 l1 x5_1).f1) 0 (wrap64 ((l0_1.length : Int) - 1)) true _ A9.out).mono ?_
     rintro e w' ⟨rfl, ⟨nd, rfl⟩⟩
     refine ⟨_, rfl, ?_⟩
     refine hK.out _ _ ⟨ct_ BK244.out 0, ct_ BK244.out 1, ((HB.out.cell (World.block_lt_of_cell? w _ hw245_0)).trans hw245_0), ((HB.out.cell (World.block_lt_of_cell? w _ hw245_1)).trans hw245_1), ((HB.out.cell (World.block_lt_of_cell? w _ hw245_2)).trans hw245_2), ((HB.out.cell (World.block_lt_of_cell? w _ hw247_0)).trans hw247_0), ((HB.out.cell (World.block_lt_of_cell? w _ hw247_1)).trans hw247_1), ((HB.out.cell (World.block_lt_of_cell? w _ hw247_2)).trans hw247_2), ((HB.out.cell (World.block_lt_of_cell? w _ hw249_0)).trans hw249_0), ((HB.out.cell (World.block_lt_of_cell? w _ hw249_1)).trans hw249_1), ((HB.out.cell (World.block_lt_of_cell? w _ hw249_2)).trans hw249_2), ((HB.out.cell (World.block_lt_of_cell? w _ hw250_0)).trans hw250_0), ((HB.out.cell (World.block_lt_of_cell? w _ hw250_1)).trans hw250_1), ((HB.out.cell (World.block_lt_of_cell? w _ hw250_2)).trans hw250_2), ((HB.out.cell (World.block_lt_of_cell? w _ hw250_3)).trans hw250_3), ((HB.out.cell (World.block_lt_of_cell? w _ hw250_4)).trans hw250_4), ((HB.out.cell (World.block_lt_of_cell? w _ hw251_0)).trans hw251_0), ((HB.out.cell (World.block_lt_of_cell? w _ hw251_1)).trans hw251_1), ((HB.out.cell (World.block_lt_of_cell? w _ hw251_2)).trans hw251_2), ((HB.out.cell (World.block_lt_of_cell? w _ hw252_0)).trans hw252_0), ((HB.out.cell (World.block_lt_of_cell? w _ hw252_1)).trans hw252_1), ((HB.out.cell (World.block_lt_of_cell? w _ hw252_2)).trans hw252_2), ((HB.out.cell (World.block_lt_of_cell? w _ hw252_3)).trans hw252_3), ((HB.out.cell (World.block_lt_of_cell? w _ hw252_4)).trans hw252_4), ((HB.out.cell (World.block_lt_of_cell? w _ hw253_0)).trans hw253_0), ((HB.out.cell (World.block_lt_of_cell? w _ hw253_1)).trans hw253_1), ((HB.out.cell (World.block_lt_of_cell? w _ hw253_2)).trans hw253_2)⟩ (fun hHeld => ?_)
     clear hK K
     refine nm1_ (some 34) ?_
     refine pu_ 22 35 z15_23 HT_.out ?_
     refine pu_ 23 36 z15_24 HT_.out ?_
     refine pu_ 24 37 z15_25 HT_.out ?_
     refine pu_ 25 38 z15_26 HT_.out ?_
     refine pu_ 27 40 z15_27 HT_.out ?_
     refine pu_ 28 41 z15_28 HT_.out ?_
     refine pu_ 29 42 z15_29 HT_.out ?_
     refine pu_ 30 43 z15_30 HT_.out ?_
     refine pu_ 35 48 z15_31 HT_.out ?_
     refine pu_ 37 50 z15_32 HT_.out ?_
     refine pu_ 38 51 z15_33 HT_.out ?_
     refine pu_ 39 52 z15_34 HT_.out ?_
     refine pu_ 40 53 z15_35 HT_.out ?_
     refine tk_ 26 39 z15_36 HT_.out HW_.out hHeld ?_
     refine tk_ 31 44 z15_37 HT_.out HW_.out hHeld ?_
     refine pu_ 32 45 z15_38 HT_.out ?_
     refine pu_ 33 46 z15_39 HT_.out ?_
     refine tk_ 34 47 z15_40 HT_.out HW_.out hHeld ?_
     refine tk_ 36 49 z15_41 HT_.out HW_.out hHeld ?_
     refine tk_ 41 54 z15_42 HT_.out HW_.out hHeld ?_
     refine pu_ 42 55 z15_43 HT_.out ?_
     refine pu_ 43 56 z15_44 HT_.out ?_
     refine tk_ 44 57 z15_45 HT_.out HW_.out hHeld ?_
     refine pu_ 45 58 z15_46 HT_.out ?_
     refine pu_ 46 59 z15_47 HT_.out ?_
     refine pu_ 47 60 z15_48 HT_.out ?_
     refine pu_ 48 61 z15_49 HT_.out ?_
     refine pu_ 49 62 z15_50 HT_.out ?_
     refine pu_ 50 63 z15_51 HT_.out ?_
     refine pu_ 51 64 z15_52 HT_.out ?_
     refine tk_ 52 65 z15_53 HT_.out HW_.out hHeld ?_
     refine one_ (i := 53) (N := some 66) z15_54 rfl rfl (one_of HT_.out (by kernel_rfl)) (by decide) (fun K hK => ?_)
     refine go_ Try.func24 #[.int .i64 ((rd_T31 l1 x5_1).f2), .int .i64 (-1), .int .i64 99] ?_
     with_reducible refine (spec_l1In.calls ((rd_T31 l1 x5_1).f2) (-1) 99 t254 _ A16.out).mono ?_
     rintro e w' ⟨rfl, ⟨nd, rfl⟩⟩
     refine ⟨_, rfl, ?_⟩
     refine hK.out _ _ ⟨ct_ BK244.out 0, ct_ BK244.out 1, ((HB.out.cell (World.block_lt_of_cell? w _ hw245_0)).trans hw245_0), ((HB.out.cell (World.block_lt_of_cell? w _ hw245_1)).trans hw245_1), ((HB.out.cell (World.block_lt_of_cell? w _ hw245_2)).trans hw245_2), ((HB.out.cell (World.block_lt_of_cell? w _ hw247_0)).trans hw247_0), ((HB.out.cell (World.block_lt_of_cell? w _ hw247_1)).trans hw247_1), ((HB.out.cell (World.block_lt_of_cell? w _ hw247_2)).trans hw247_2), ((HB.out.cell (World.block_lt_of_cell? w _ hw249_0)).trans hw249_0), ((HB.out.cell (World.block_lt_of_cell? w _ hw249_1)).trans hw249_1), ((HB.out.cell (World.block_lt_of_cell? w _ hw249_2)).trans hw249_2), ((HB.out.cell (World.block_lt_of_cell? w _ hw250_0)).trans hw250_0), ((HB.out.cell (World.block_lt_of_cell? w _ hw250_1)).trans hw250_1), ((HB.out.cell (World.block_lt_of_cell? w _ hw250_2)).trans hw250_2), ((HB.out.cell (World.block_lt_of_cell? w _ hw250_3)).trans hw250_3), ((HB.out.cell (World.block_lt_of_cell? w _ hw250_4)).trans hw250_4), ((HB.out.cell (World.block_lt_of_cell? w _ hw251_0)).trans hw251_0), ((HB.out.cell (World.block_lt_of_cell? w _ hw251_1)).trans hw251_1), ((HB.out.cell (World.block_lt_of_cell? w _ hw251_2)).trans hw251_2), ((HB.out.cell (World.block_lt_of_cell? w _ hw252_0)).trans hw252_0), ((HB.out.cell (World.block_lt_of_cell? w _ hw252_1)).trans hw252_1), ((HB.out.cell (World.block_lt_of_cell? w _ hw252_2)).trans hw252_2), ((HB.out.cell (World.block_lt_of_cell? w _ hw252_3)).trans hw252_3), ((HB.out.cell (World.block_lt_of_cell? w _ hw252_4)).trans hw252_4), ((HB.out.cell (World.block_lt_of_cell? w _ hw253_0)).trans hw253_0), ((HB.out.cell (World.block_lt_of_cell? w _ hw253_1)).trans hw253_1), ((HB.out.cell (World.block_lt_of_cell? w _ hw253_2)).trans hw253_2)⟩ (fun hHeld => ?_)
     clear hK K
     refine nm1_ (some 66) ?_
     refine pu_ 54 67 z15_55 HT_.out ?_
     refine pu_ 55 68 z15_56 HT_.out ?_
     refine done_ (done_of HT_.out (by kernel_rfl)) ?_
     try go_wp2
     go_meet
     case rel => exact ⟨_, (!t254), ns_, H', ⟨by have := HK1.out; first | omega | exact Nat.le_refl _⟩, ⟨nb_ BK244.out⟩, ⟨ne_ HB.out⟩⟩
    case rest =>
     clear HC5
     obtain ⟨kq, x68_4, rfl, HA, HJ4, BK244, HB⟩ := hcut
     cases kq with
     | zero => exact absurd HA.out (by simp [spec_l4Ok.j1])
     | succ kj4 =>
      have H := HA.out
      clear HA
      simp only [spec_l4Ok.j1] at H
      by_cases c21 : x68_4 = true
      ·subst c21
       have H1 : (some false) = some r := by rw [if_pos rfl] at H; exact H
       clear H
       have H := H1
       clear H1
       obtain rfl := Option.some.inj H
       go_wp2
       go_ret
       exact ⟨nw_, ne_ HB.out⟩
      replace c21 := Bool.eq_false_iff.mpr c21
      subst c21
      have H1 : (spec_l4Ok.l1 kj4 l1 x5_1 0 a0_0 l0_1) = some r := by rw [if_neg (show ¬ (false = true) by decide)] at H; exact H
      clear H
      have H := H1
      clear H1
      have H' := Aside0.mk H
      clear H
      go_wp2
      go_loopg [6] kj4 (fun kq v6 w' => ∃ (x6_3 : Int), v6 = .int .i64 x6_3 ∧ Aside0 (spec_l4Ok.l1 kq l1 x5_1 x6_3 a0_0 l0_1 = some r) ∧ Aside0 (kq ≤ kj4) ∧ Aside0 (w'.heap[gb244]? = some (.cells #[.int .i64 a0_0, (.slice A0_1 l0_1.length c0_1)] 25 (0, 0))) ∧ Aside0 (Below w.heap.size w w'))
      case atStart => exact ⟨(0), ns_, H', ⟨Nat.le_refl _⟩, ⟨nb_ BK244.out⟩, ⟨ne_ HB.out⟩⟩
      case round =>
       clear H'
       try clear c21
       obtain ⟨x6_3, rfl, HA, HK3, BK244, HB⟩ := hrel
       cases gk with
       | zero => exact absurd HA.out (by simp [spec_l4Ok.l1])
       | succ k3 =>
        have H := HA.out
        clear HA
        simp only [spec_l4Ok.l1] at H
        by_cases c22 : x6_3 < x5_1
        rotate_left
        ·rw [if_neg c22] at H
         have c22b0 : decide (x6_3 < x5_1) = false := decide_eq_false c22
         clear c22
         have H' := Aside0.mk H
         clear H
         go_wp2
         go_roundg k3
         case measure => have := HK1.out; have := HJ4.out; have := HK3.out; omega
         case rel => exact ⟨(wrap64 (x5_1 + 1)), ns_, H', ⟨by have := HK1.out; have := HJ4.out; have := HK3.out; omega⟩, ⟨nb_ BK244.out⟩, ⟨ne_ HB.out⟩⟩
        rw [if_pos c22] at H
        have c22b0 : decide (x6_3 < x5_1) = true := decide_eq_true c22
        clear c22
        by_cases c23 : 0 ≤ x6_3
        rotate_left
        ·rw [if_neg c23] at H
         exact absurd H (by simp)
        rw [if_pos c23] at H
        have c23b0 : decide (0 ≤ x6_3) = true := decide_eq_true c23
        clear c23
        by_cases c24 : x6_3 < (l1.length : Int)
        rotate_left
        ·rw [if_neg c24] at H
         exact absurd H (by simp)
        rw [if_pos c24] at H
        have c24b0 : decide (x6_3 < (l1.length : Int)) = true := decide_eq_true c24
        clear c24
        by_cases c25 : 0 ≤ x5_1
        rotate_left
        ·rw [if_neg c25] at H
         exact absurd H (by simp)
        rw [if_pos c25] at H
        have c25b0 : decide (0 ≤ x5_1) = true := decide_eq_true c25
        clear c25
        by_cases c26 : x5_1 < (l1.length : Int)
        rotate_left
        ·rw [if_neg c26] at H
         exact absurd H (by simp)
        rw [if_pos c26] at H
        have c26b0 : decide (x5_1 < (l1.length : Int)) = true := decide_eq_true c26
        clear c26
        by_cases c27 : ((rd_T31 l1 x6_3).f0) = ((rd_T31 l1 x5_1).f0)
        rotate_left
        ·rw [if_neg c27] at H
         have c27b0 : (((rd_T31 l1 x6_3).f0) == ((rd_T31 l1 x5_1).f0)) = false := beq_eq_false_iff_ne.mpr c27
         have c27b1 : (((rd_T31 l1 x6_3).f0) != ((rd_T31 l1 x5_1).f0)) = true := bne_iff_ne.mpr c27
         have H' := Aside0.mk H
         clear H
         try go_wp2
         replace BK244 := Aside0.mk (blk_drew BK244.out)
         replace HB := Aside0.mk (below_drew1 HB.out)
         have p255 : 0 ≤ (x6_3 : Int) := of_decide_eq_true nx_
         have q255 : x6_3 < (l1.length : Int) := of_decide_eq_true nx_
         obtain ⟨ad255, e255, hx255_0, hx255_1, hx255_2⟩ := at_T31 HR1.out x6_3 p255 q255
         have hw255_2 := hx255_2
         have hw255_1 := hx255_1
         have hw255_0 := hx255_0
         cases e255
         replace hx255_0 := hb_ HB.out hx255_0
         replace hx255_1 := hb_ HB.out hx255_1
         replace hx255_2 := hb_ HB.out hx255_2
         replace p255 := eq_true p255
         replace q255 := eq_true q255
         have p256 : 0 ≤ (x5_1 : Int) := of_decide_eq_true nx_
         have q256 : x5_1 < (l1.length : Int) := of_decide_eq_true nx_
         obtain ⟨ad256, e256, hx256_0, hx256_1, hx256_2⟩ := at_T31 HR1.out x5_1 p256 q256
         have hw256_2 := hx256_2
         have hw256_1 := hx256_1
         have hw256_0 := hx256_0
         obtain rfl : ad255 = ad256 := (by injection e256)
         replace hx256_0 := hb_ HB.out hx256_0
         replace hx256_1 := hb_ HB.out hx256_1
         replace hx256_2 := hb_ HB.out hx256_2
         replace p256 := eq_true p256
         replace q256 := eq_true q256
         refine start_ (n := 24) (S := fun w' => w'.cell? (ad255.add ((x6_3).toNat * 3)) = some (.int .i64 ((rd_T31 l1 x6_3).f0)) ∧ w'.cell? ⟨(ad255.add ((x6_3).toNat * 3)).block, (ad255.add ((x6_3).toNat * 3)).off + 1, none⟩ = some (.int .i64 ((rd_T31 l1 x6_3).f1)) ∧ w'.cell? ⟨(ad255.add ((x6_3).toNat * 3)).block, (ad255.add ((x6_3).toNat * 3)).off + 2, none⟩ = some (.int .i64 ((rd_T31 l1 x6_3).f2)) ∧ w'.cell? (ad255.add ((x5_1).toNat * 3)) = some (.int .i64 ((rd_T31 l1 x5_1).f0)) ∧ w'.cell? ⟨(ad255.add ((x5_1).toNat * 3)).block, (ad255.add ((x5_1).toNat * 3)).off + 1, none⟩ = some (.int .i64 ((rd_T31 l1 x5_1).f1)) ∧ w'.cell? ⟨(ad255.add ((x5_1).toNat * 3)).block, (ad255.add ((x5_1).toNat * 3)).off + 2, none⟩ = some (.int .i64 ((rd_T31 l1 x5_1).f2))) (ds := []) z15_71 (by kernel_rfl) rfl rfl ⟨((HB.out.cell (World.block_lt_of_cell? w _ hw255_0)).trans hw255_0), ((HB.out.cell (World.block_lt_of_cell? w _ hw255_1)).trans hw255_1), ((HB.out.cell (World.block_lt_of_cell? w _ hw255_2)).trans hw255_2), ((HB.out.cell (World.block_lt_of_cell? w _ hw256_0)).trans hw256_0), ((HB.out.cell (World.block_lt_of_cell? w _ hw256_1)).trans hw256_1), ((HB.out.cell (World.block_lt_of_cell? w _ hw256_2)).trans hw256_2)⟩ (fun hHeld => ?_); refine with_tabW spec_l4Ok.tab9 spec_l4Ok.bits9 (fun HT_ HW_ => ?_)
         generalize wr.drew = w31 at BK244 HB hx255_0 hx255_1 hx255_2 hx256_0 hx256_1 hx256_2 hHeld ⊢
         refine pu_ 0 74 z15_72 HT_.out ?_
         refine pu_ 1 75 z15_73 HT_.out ?_
         refine pu_ 2 76 z15_74 HT_.out ?_
         refine pu_ 3 77 z15_75 HT_.out ?_
         refine pu_ 5 79 z15_76 HT_.out ?_
         refine pu_ 6 80 z15_77 HT_.out ?_
         refine pu_ 7 81 z15_78 HT_.out ?_
         refine pu_ 8 82 z15_79 HT_.out ?_
         refine tk_ 4 78 z15_80 HT_.out HW_.out hHeld ?_
         refine tk_ 9 83 z15_81 HT_.out HW_.out hHeld ?_
         refine pu_ 10 84 z15_82 HT_.out ?_
         refine pu_ 11 85 z15_83 HT_.out ?_
         refine un_ 12 86 z15_84 HT_.out ?_
         refine un_ 13 87 z15_85 HT_.out ?_
         refine un_ 14 88 z15_86 HT_.out ?_
         refine un_ 15 89 z15_87 HT_.out ?_
         refine un_ 16 90 (bm_ 24 131071) HT_.out ?_
         refine un_ 17 91 (bm_ 24 262143) HT_.out ?_
         refine un_ 18 92 (bm_ 24 524287) HT_.out ?_
         refine un_ 19 93 (bm_ 24 1048575) HT_.out ?_
         refine un_ 20 94 z15_92 HT_.out ?_
         refine un_ 21 95 z15_93 HT_.out ?_
         refine un_ 22 96 z15_94 HT_.out ?_
         refine pu_ 23 97 z15_95 HT_.out ?_
         refine done_ (done_of HT_.out (by kernel_rfl)) ?_
         try go_wp2
         go_roundg k3
         case measure => have := HK1.out; have := HJ4.out; have := HK3.out; omega
         case rel => exact ⟨(wrap64 (x6_3 + 1)), ns_, H', ⟨by have := HK1.out; have := HJ4.out; have := HK3.out; omega⟩, ⟨nb_ BK244.out⟩, ⟨ne_ HB.out⟩⟩
        rw [if_pos c27] at H
        have c27b0 : (((rd_T31 l1 x6_3).f0) == ((rd_T31 l1 x5_1).f0)) = true := beq_iff_eq.mpr c27
        have c27b1 : (((rd_T31 l1 x6_3).f0) != ((rd_T31 l1 x5_1).f0)) = false := bne_eq_false_iff_eq.mpr c27
        clear c27
        by_cases c28 : ((rd_T31 l1 x6_3).f1) = ((rd_T31 l1 x5_1).f1)
        ·rw [if_pos c28] at H
         have c28b0 : (((rd_T31 l1 x6_3).f1) == ((rd_T31 l1 x5_1).f1)) = true := beq_iff_eq.mpr c28
         have c28b1 : (((rd_T31 l1 x6_3).f1) != ((rd_T31 l1 x5_1).f1)) = false := bne_eq_false_iff_eq.mpr c28
         clear c28
         obtain rfl := Option.some.inj H
         try go_wp2
         replace BK244 := Aside0.mk (blk_drew BK244.out)
         replace HB := Aside0.mk (below_drew1 HB.out)
         have p255 : 0 ≤ (x6_3 : Int) := of_decide_eq_true nx_
         have q255 : x6_3 < (l1.length : Int) := of_decide_eq_true nx_
         obtain ⟨ad255, e255, hx255_0, hx255_1, hx255_2⟩ := at_T31 HR1.out x6_3 p255 q255
         have hw255_2 := hx255_2
         have hw255_1 := hx255_1
         have hw255_0 := hx255_0
         cases e255
         replace hx255_0 := hb_ HB.out hx255_0
         replace hx255_1 := hb_ HB.out hx255_1
         replace hx255_2 := hb_ HB.out hx255_2
         replace p255 := eq_true p255
         replace q255 := eq_true q255
         have p256 : 0 ≤ (x5_1 : Int) := of_decide_eq_true nx_
         have q256 : x5_1 < (l1.length : Int) := of_decide_eq_true nx_
         obtain ⟨ad256, e256, hx256_0, hx256_1, hx256_2⟩ := at_T31 HR1.out x5_1 p256 q256
         have hw256_2 := hx256_2
         have hw256_1 := hx256_1
         have hw256_0 := hx256_0
         obtain rfl : ad255 = ad256 := (by injection e256)
         replace hx256_0 := hb_ HB.out hx256_0
         replace hx256_1 := hb_ HB.out hx256_1
         replace hx256_2 := hb_ HB.out hx256_2
         replace p256 := eq_true p256
         replace q256 := eq_true q256
         have p257 : 0 ≤ (x6_3 : Int) := of_decide_eq_true nx_
         have q257 : x6_3 < (l1.length : Int) := of_decide_eq_true nx_
         obtain ⟨ad257, e257, hx257_0, hx257_1, hx257_2⟩ := at_T31 HR1.out x6_3 p257 q257
         have hw257_2 := hx257_2
         have hw257_1 := hx257_1
         have hw257_0 := hx257_0
         obtain rfl : ad255 = ad257 := (by injection e257)
         replace hx257_0 := hb_ HB.out hx257_0
         replace hx257_1 := hb_ HB.out hx257_1
         replace hx257_2 := hb_ HB.out hx257_2
         replace p257 := eq_true p257
         replace q257 := eq_true q257
         have p258 : 0 ≤ (x5_1 : Int) := of_decide_eq_true nx_
         have q258 : x5_1 < (l1.length : Int) := of_decide_eq_true nx_
         obtain ⟨ad258, e258, hx258_0, hx258_1, hx258_2⟩ := at_T31 HR1.out x5_1 p258 q258
         have hw258_2 := hx258_2
         have hw258_1 := hx258_1
         have hw258_0 := hx258_0
         obtain rfl : ad255 = ad258 := (by injection e258)
         replace hx258_0 := hb_ HB.out hx258_0
         replace hx258_1 := hb_ HB.out hx258_1
         replace hx258_2 := hb_ HB.out hx258_2
         replace p258 := eq_true p258
         replace q258 := eq_true q258
         refine start_ (n := 24) (S := fun w' => w'.cell? (ad255.add ((x6_3).toNat * 3)) = some (.int .i64 ((rd_T31 l1 x6_3).f0)) ∧ w'.cell? ⟨(ad255.add ((x6_3).toNat * 3)).block, (ad255.add ((x6_3).toNat * 3)).off + 1, none⟩ = some (.int .i64 ((rd_T31 l1 x6_3).f1)) ∧ w'.cell? ⟨(ad255.add ((x6_3).toNat * 3)).block, (ad255.add ((x6_3).toNat * 3)).off + 2, none⟩ = some (.int .i64 ((rd_T31 l1 x6_3).f2)) ∧ w'.cell? (ad255.add ((x5_1).toNat * 3)) = some (.int .i64 ((rd_T31 l1 x5_1).f0)) ∧ w'.cell? ⟨(ad255.add ((x5_1).toNat * 3)).block, (ad255.add ((x5_1).toNat * 3)).off + 1, none⟩ = some (.int .i64 ((rd_T31 l1 x5_1).f1)) ∧ w'.cell? ⟨(ad255.add ((x5_1).toNat * 3)).block, (ad255.add ((x5_1).toNat * 3)).off + 2, none⟩ = some (.int .i64 ((rd_T31 l1 x5_1).f2)) ∧ w'.cell? (ad255.add ((x6_3).toNat * 3)) = some (.int .i64 ((rd_T31 l1 x6_3).f0)) ∧ w'.cell? ⟨(ad255.add ((x6_3).toNat * 3)).block, (ad255.add ((x6_3).toNat * 3)).off + 1, none⟩ = some (.int .i64 ((rd_T31 l1 x6_3).f1)) ∧ w'.cell? ⟨(ad255.add ((x6_3).toNat * 3)).block, (ad255.add ((x6_3).toNat * 3)).off + 2, none⟩ = some (.int .i64 ((rd_T31 l1 x6_3).f2)) ∧ w'.cell? (ad255.add ((x5_1).toNat * 3)) = some (.int .i64 ((rd_T31 l1 x5_1).f0)) ∧ w'.cell? ⟨(ad255.add ((x5_1).toNat * 3)).block, (ad255.add ((x5_1).toNat * 3)).off + 1, none⟩ = some (.int .i64 ((rd_T31 l1 x5_1).f1)) ∧ w'.cell? ⟨(ad255.add ((x5_1).toNat * 3)).block, (ad255.add ((x5_1).toNat * 3)).off + 2, none⟩ = some (.int .i64 ((rd_T31 l1 x5_1).f2))) (ds := []) z15_71 (by kernel_rfl) rfl rfl ⟨((HB.out.cell (World.block_lt_of_cell? w _ hw255_0)).trans hw255_0), ((HB.out.cell (World.block_lt_of_cell? w _ hw255_1)).trans hw255_1), ((HB.out.cell (World.block_lt_of_cell? w _ hw255_2)).trans hw255_2), ((HB.out.cell (World.block_lt_of_cell? w _ hw256_0)).trans hw256_0), ((HB.out.cell (World.block_lt_of_cell? w _ hw256_1)).trans hw256_1), ((HB.out.cell (World.block_lt_of_cell? w _ hw256_2)).trans hw256_2), ((HB.out.cell (World.block_lt_of_cell? w _ hw257_0)).trans hw257_0), ((HB.out.cell (World.block_lt_of_cell? w _ hw257_1)).trans hw257_1), ((HB.out.cell (World.block_lt_of_cell? w _ hw257_2)).trans hw257_2), ((HB.out.cell (World.block_lt_of_cell? w _ hw258_0)).trans hw258_0), ((HB.out.cell (World.block_lt_of_cell? w _ hw258_1)).trans hw258_1), ((HB.out.cell (World.block_lt_of_cell? w _ hw258_2)).trans hw258_2)⟩ (fun hHeld => ?_); refine with_tabW spec_l4Ok.tab9 spec_l4Ok.bits9 (fun HT_ HW_ => ?_)
         generalize wr.drew = w29 at BK244 HB hx255_0 hx255_1 hx255_2 hx256_0 hx256_1 hx256_2 hx257_0 hx257_1 hx257_2 hx258_0 hx258_1 hx258_2 hHeld ⊢
         refine pu_ 0 74 z15_72 HT_.out ?_
         refine pu_ 1 75 z15_73 HT_.out ?_
         refine pu_ 2 76 z15_74 HT_.out ?_
         refine pu_ 3 77 z15_75 HT_.out ?_
         refine pu_ 5 79 z15_76 HT_.out ?_
         refine pu_ 6 80 z15_77 HT_.out ?_
         refine pu_ 7 81 z15_78 HT_.out ?_
         refine pu_ 8 82 z15_79 HT_.out ?_
         refine tk_ 4 78 z15_80 HT_.out HW_.out hHeld ?_
         refine tk_ 9 83 z15_81 HT_.out HW_.out hHeld ?_
         refine pu_ 10 84 z15_82 HT_.out ?_
         refine pu_ 11 85 z15_83 HT_.out ?_
         refine pu_ 12 86 z15_84 HT_.out ?_
         refine pu_ 13 87 z15_85 HT_.out ?_
         refine pu_ 14 88 z15_86 HT_.out ?_
         refine pu_ 15 89 z15_87 HT_.out ?_
         refine pu_ 17 91 z15_88 HT_.out ?_
         refine pu_ 18 92 z15_89 HT_.out ?_
         refine pu_ 19 93 z15_90 HT_.out ?_
         refine pu_ 20 94 z15_91 HT_.out ?_
         refine tk_ 16 90 z15_92 HT_.out HW_.out hHeld ?_
         refine tk_ 21 95 z15_93 HT_.out HW_.out hHeld ?_
         refine pu_ 22 96 z15_94 HT_.out ?_
         refine pu_ 23 97 z15_95 HT_.out ?_
         refine done_ (done_of HT_.out (by kernel_rfl)) ?_
         try go_wp2
         go_ret
         exact ⟨nw_, ne_ HB.out⟩
        rw [if_neg c28] at H
        have c28b0 : (((rd_T31 l1 x6_3).f1) == ((rd_T31 l1 x5_1).f1)) = false := beq_eq_false_iff_ne.mpr c28
        have c28b1 : (((rd_T31 l1 x6_3).f1) != ((rd_T31 l1 x5_1).f1)) = true := bne_iff_ne.mpr c28
        have H' := Aside0.mk H
        clear H
        try go_wp2
        replace BK244 := Aside0.mk (blk_drew BK244.out)
        replace HB := Aside0.mk (below_drew1 HB.out)
        have p255 : 0 ≤ (x6_3 : Int) := of_decide_eq_true nx_
        have q255 : x6_3 < (l1.length : Int) := of_decide_eq_true nx_
        obtain ⟨ad255, e255, hx255_0, hx255_1, hx255_2⟩ := at_T31 HR1.out x6_3 p255 q255
        have hw255_2 := hx255_2
        have hw255_1 := hx255_1
        have hw255_0 := hx255_0
        cases e255
        replace hx255_0 := hb_ HB.out hx255_0
        replace hx255_1 := hb_ HB.out hx255_1
        replace hx255_2 := hb_ HB.out hx255_2
        replace p255 := eq_true p255
        replace q255 := eq_true q255
        have p256 : 0 ≤ (x5_1 : Int) := of_decide_eq_true nx_
        have q256 : x5_1 < (l1.length : Int) := of_decide_eq_true nx_
        obtain ⟨ad256, e256, hx256_0, hx256_1, hx256_2⟩ := at_T31 HR1.out x5_1 p256 q256
        have hw256_2 := hx256_2
        have hw256_1 := hx256_1
        have hw256_0 := hx256_0
        obtain rfl : ad255 = ad256 := (by injection e256)
        replace hx256_0 := hb_ HB.out hx256_0
        replace hx256_1 := hb_ HB.out hx256_1
        replace hx256_2 := hb_ HB.out hx256_2
        replace p256 := eq_true p256
        replace q256 := eq_true q256
        have p257 : 0 ≤ (x6_3 : Int) := of_decide_eq_true nx_
        have q257 : x6_3 < (l1.length : Int) := of_decide_eq_true nx_
        obtain ⟨ad257, e257, hx257_0, hx257_1, hx257_2⟩ := at_T31 HR1.out x6_3 p257 q257
        have hw257_2 := hx257_2
        have hw257_1 := hx257_1
        have hw257_0 := hx257_0
        obtain rfl : ad255 = ad257 := (by injection e257)
        replace hx257_0 := hb_ HB.out hx257_0
        replace hx257_1 := hb_ HB.out hx257_1
        replace hx257_2 := hb_ HB.out hx257_2
        replace p257 := eq_true p257
        replace q257 := eq_true q257
        have p258 : 0 ≤ (x5_1 : Int) := of_decide_eq_true nx_
        have q258 : x5_1 < (l1.length : Int) := of_decide_eq_true nx_
        obtain ⟨ad258, e258, hx258_0, hx258_1, hx258_2⟩ := at_T31 HR1.out x5_1 p258 q258
        have hw258_2 := hx258_2
        have hw258_1 := hx258_1
        have hw258_0 := hx258_0
        obtain rfl : ad255 = ad258 := (by injection e258)
        replace hx258_0 := hb_ HB.out hx258_0
        replace hx258_1 := hb_ HB.out hx258_1
        replace hx258_2 := hb_ HB.out hx258_2
        replace p258 := eq_true p258
        replace q258 := eq_true q258
        refine start_ (n := 24) (S := fun w' => w'.cell? (ad255.add ((x6_3).toNat * 3)) = some (.int .i64 ((rd_T31 l1 x6_3).f0)) ∧ w'.cell? ⟨(ad255.add ((x6_3).toNat * 3)).block, (ad255.add ((x6_3).toNat * 3)).off + 1, none⟩ = some (.int .i64 ((rd_T31 l1 x6_3).f1)) ∧ w'.cell? ⟨(ad255.add ((x6_3).toNat * 3)).block, (ad255.add ((x6_3).toNat * 3)).off + 2, none⟩ = some (.int .i64 ((rd_T31 l1 x6_3).f2)) ∧ w'.cell? (ad255.add ((x5_1).toNat * 3)) = some (.int .i64 ((rd_T31 l1 x5_1).f0)) ∧ w'.cell? ⟨(ad255.add ((x5_1).toNat * 3)).block, (ad255.add ((x5_1).toNat * 3)).off + 1, none⟩ = some (.int .i64 ((rd_T31 l1 x5_1).f1)) ∧ w'.cell? ⟨(ad255.add ((x5_1).toNat * 3)).block, (ad255.add ((x5_1).toNat * 3)).off + 2, none⟩ = some (.int .i64 ((rd_T31 l1 x5_1).f2)) ∧ w'.cell? (ad255.add ((x6_3).toNat * 3)) = some (.int .i64 ((rd_T31 l1 x6_3).f0)) ∧ w'.cell? ⟨(ad255.add ((x6_3).toNat * 3)).block, (ad255.add ((x6_3).toNat * 3)).off + 1, none⟩ = some (.int .i64 ((rd_T31 l1 x6_3).f1)) ∧ w'.cell? ⟨(ad255.add ((x6_3).toNat * 3)).block, (ad255.add ((x6_3).toNat * 3)).off + 2, none⟩ = some (.int .i64 ((rd_T31 l1 x6_3).f2)) ∧ w'.cell? (ad255.add ((x5_1).toNat * 3)) = some (.int .i64 ((rd_T31 l1 x5_1).f0)) ∧ w'.cell? ⟨(ad255.add ((x5_1).toNat * 3)).block, (ad255.add ((x5_1).toNat * 3)).off + 1, none⟩ = some (.int .i64 ((rd_T31 l1 x5_1).f1)) ∧ w'.cell? ⟨(ad255.add ((x5_1).toNat * 3)).block, (ad255.add ((x5_1).toNat * 3)).off + 2, none⟩ = some (.int .i64 ((rd_T31 l1 x5_1).f2))) (ds := []) z15_71 (by kernel_rfl) rfl rfl ⟨((HB.out.cell (World.block_lt_of_cell? w _ hw255_0)).trans hw255_0), ((HB.out.cell (World.block_lt_of_cell? w _ hw255_1)).trans hw255_1), ((HB.out.cell (World.block_lt_of_cell? w _ hw255_2)).trans hw255_2), ((HB.out.cell (World.block_lt_of_cell? w _ hw256_0)).trans hw256_0), ((HB.out.cell (World.block_lt_of_cell? w _ hw256_1)).trans hw256_1), ((HB.out.cell (World.block_lt_of_cell? w _ hw256_2)).trans hw256_2), ((HB.out.cell (World.block_lt_of_cell? w _ hw257_0)).trans hw257_0), ((HB.out.cell (World.block_lt_of_cell? w _ hw257_1)).trans hw257_1), ((HB.out.cell (World.block_lt_of_cell? w _ hw257_2)).trans hw257_2), ((HB.out.cell (World.block_lt_of_cell? w _ hw258_0)).trans hw258_0), ((HB.out.cell (World.block_lt_of_cell? w _ hw258_1)).trans hw258_1), ((HB.out.cell (World.block_lt_of_cell? w _ hw258_2)).trans hw258_2)⟩ (fun hHeld => ?_); refine with_tabW spec_l4Ok.tab9 spec_l4Ok.bits9 (fun HT_ HW_ => ?_)
        generalize wr.drew = w30 at BK244 HB hx255_0 hx255_1 hx255_2 hx256_0 hx256_1 hx256_2 hx257_0 hx257_1 hx257_2 hx258_0 hx258_1 hx258_2 hHeld ⊢
        refine pu_ 0 74 z15_72 HT_.out ?_
        refine pu_ 1 75 z15_73 HT_.out ?_
        refine pu_ 2 76 z15_74 HT_.out ?_
        refine pu_ 3 77 z15_75 HT_.out ?_
        refine pu_ 5 79 z15_76 HT_.out ?_
        refine pu_ 6 80 z15_77 HT_.out ?_
        refine pu_ 7 81 z15_78 HT_.out ?_
        refine pu_ 8 82 z15_79 HT_.out ?_
        refine tk_ 4 78 z15_80 HT_.out HW_.out hHeld ?_
        refine tk_ 9 83 z15_81 HT_.out HW_.out hHeld ?_
        refine pu_ 10 84 z15_82 HT_.out ?_
        refine pu_ 11 85 z15_83 HT_.out ?_
        refine pu_ 12 86 z15_84 HT_.out ?_
        refine pu_ 13 87 z15_85 HT_.out ?_
        refine pu_ 14 88 z15_86 HT_.out ?_
        refine pu_ 15 89 z15_87 HT_.out ?_
        refine pu_ 17 91 z15_88 HT_.out ?_
        refine pu_ 18 92 z15_89 HT_.out ?_
        refine pu_ 19 93 z15_90 HT_.out ?_
        refine pu_ 20 94 z15_91 HT_.out ?_
        refine tk_ 16 90 z15_92 HT_.out HW_.out hHeld ?_
        refine tk_ 21 95 z15_93 HT_.out HW_.out hHeld ?_
        refine pu_ 22 96 z15_94 HT_.out ?_
        refine pu_ 23 97 z15_95 HT_.out ?_
        refine done_ (done_of HT_.out (by kernel_rfl)) ?_
        try go_wp2
        go_roundg k3
        case measure => have := HK1.out; have := HJ4.out; have := HK3.out; omega
        case rel => exact ⟨(wrap64 (x6_3 + 1)), ns_, H', ⟨by have := HK1.out; have := HJ4.out; have := HK3.out; omega⟩, ⟨nb_ BK244.out⟩, ⟨ne_ HB.out⟩⟩
end Go.Proofs.Ytahcomglicodlaa.Print
