-- Made by this session's own program (wip/patch_print.py, over the kit's print). Lean checks it.
import Derived.Test.YtfpfaaibgaejjaaPrint0
import Derived.Test.YtfpfaaibgaejjaaPrintB
namespace Go.Proofs.Ytfpfaaibgaejjaa.Print
open Go.RowKit Go.Proofs.YtfpfaaibgaejjaaW.PrintWords Go.Proofs.YtfpfaaibgaejjaaW.PrintLast Go.Proofs.YtfpfaaibgaejjaaW.PrintMore Go.Proofs.YtfpfaaibgaejjaaX
attribute [local go_sem] max2_int min2_int max_two min_two max_three min_three max_four min_four   -- for this text's walks alone
set_option linter.unusedVariables false
set_option linter.unusedSimpArgs false

abbrev z23_0 := bm_ 29 0
abbrev z23_1 := bm_ 29 1
abbrev z23_2 := bm_ 29 3
abbrev z23_3 := bm_ 29 7
abbrev z23_4 := bm_ 29 15
abbrev z23_5 := bm_ 29 31
abbrev z23_6 := bm_ 29 63
abbrev z23_7 := bm_ 29 127
abbrev z23_8 := bm_ 29 255
abbrev z23_9 := bm_ 29 511
abbrev z23_10 := bm_ 29 1023
abbrev z23_11 := bm_ 29 2047
abbrev z23_12 := bm_ 29 4095
abbrev z23_13 := bm_ 29 12287
abbrev z23_14 := bm_ 29 16383
abbrev z23_15 := bm_ 29 32767
abbrev z23_16 := bm_ 29 65535
abbrev z23_17 := bm_ 29 131071
abbrev z23_18 := bm_ 29 262143
abbrev z23_19 := bm_ 29 524287
abbrev z23_20 := bm_ 29 1048575
abbrev z23_21 := bm_ 29 2097151
abbrev z23_22 := bm_ 29 4194303
abbrev z23_23 := bm_ 29 8388607
abbrev z23_24 := bm_ 29 16777215
abbrev z23_25 := bm_ 29 33554431
abbrev z23_26 := bm_ 29 67108863
abbrev z23_27 := bm_ 29 134217727
abbrev z23_28 := bm_ 29 268435455
abbrev z23_29 := bm_ 29 536870911
abbrev z23_30 := bm_ 29 12582911
abbrev z23_31 := bm_ 29 8191
/-! ### impl_StairOk: function 23 -/
def impl_StairOk.l0 : Nat → List (S36) → List (S36) → Int → Int → Option (Bool)
  | 0, _, _, _, _ => none
  | k + 1, x0, x5, x6, x7 => if x7 < x6 then (if 0 ≤ x7 then (if x7 < (x5.length : Int) then ((impl_Step_valid.f ((rd_T36 x5 x7).f0) ((rd_T36 x5 x7).f1)).bind fun t306 => (if t306 = true then (if x7 > 0 then (if 0 ≤ (wrap64 (x7 - 1)) then (if (wrap64 (x7 - 1)) < (x0.length : Int) then (if ((rd_T36 x0 (wrap64 (x7 - 1))).f0) ≥ ((rd_T36 x5 x7).f0) then (some false) else (if ((rd_T36 x0 (wrap64 (x7 - 1))).f1) ≥ ((rd_T36 x5 x7).f1) then (some false) else (impl_StairOk.l0 k x0 x5 x6 (wrap64 (x7 + 1))))) else (none)) else (none)) else (impl_StairOk.l0 k x0 x5 x6 (wrap64 (x7 + 1)))) else (some false))) else (none)) else (none)) else (some (decide ((x0.length : Int) ≤ 12)))
def impl_StairOk.f (k : Nat) (l0 : List (S36)) : Option (Bool) := impl_StairOk.l0 k l0 l0 (l0.length : Int) 0
theorem impl_StairOk.mono_l : ∀ k, (∀ y0 y1 y2 y3, LeO (impl_StairOk.l0 k y0 y1 y2 y3) (impl_StairOk.l0 (k + 1) y0 y1 y2 y3))
  | 0 => fun _ _ _ _ r h => by simp [impl_StairOk.l0] at h
  | k + 1 => by
    have ih0 := impl_StairOk.mono_l k
    · intro y0 y1 y2 y3
      unfold impl_StairOk.l0
      repeat' first | (with_reducible first | exact ih0 _ _ _ _ | exact LeO.refl _ | exact LeO.none _ | refine LeO.ite ?_ ?_ | refine LeO.bind ?_ (fun _ => ?_)) | exact ih0 _ _ _ _ | exact LeO.none _ | refine LeO.ite ?_ ?_ | refine LeO.bind ?_ (fun _ => ?_)
theorem impl_StairOk.mono : ∀ a0 k, LeO (impl_StairOk.f k a0) (impl_StairOk.f (k + 1) a0) := by
  intro a0 k
  have ih0 := impl_StairOk.mono_l k
  unfold impl_StairOk.f
  repeat' first | (with_reducible first | exact ih0 _ _ _ _ | exact LeO.refl _ | exact LeO.none _ | refine LeO.ite ?_ ?_ | refine LeO.bind ?_ (fun _ => ?_)) | exact ih0 _ _ _ _ | exact LeO.none _ | refine LeO.ite ?_ ?_ | refine LeO.bind ?_ (fun _ => ?_)
def impl_StairOk.T4 : Bool × List (List Nat × List Nat) := (true, [([], []), ([0], [0]), ([1], [1]), ([2, 1], [2]), ([3], [3]), ([4, 3], [3, 4]), ([5, 3, 3], [3, 5]), ([6], [6]), ([6], [6]), ([8, 6], [6, 8]), ([7, 9, 6], [6, 7, 9]), ([10, 6], [6, 10]), ([11, 6], [6, 11]), ([6], [6]), ([13, 6], [6, 13]), ([12, 14, 6], [6, 12, 14]), ([15, 6, 6], [6, 15]), ([16], [16]), ([16], [16]), ([18, 16], [16, 18]), ([17, 19, 16], [16, 17, 19]), ([20, 16], [16, 20]), ([21, 16], [16, 21]), ([16], [16]), ([23, 16], [16, 23]), ([22, 24, 16], [16, 22, 24]), ([16, 25, 6], [6, 16, 25]), ([6, 26, 3], [3, 6, 26]), ([3, 27], [3, 27])])
def impl_StairOk.B4 : List Nat := [0, 1, 3, 7, 15, 31, 63, 127, 127, 383, 1023, 2047, 4095, 127, 8319, 32767, 65535, 131071, 131071, 393215, 1048575, 2097151, 4194303, 131071, 8519679, 33554431, 67108863, 134217727, 268435455]
theorem impl_StairOk.tab4 : rtab .any (opsOf Try.f23 4) = impl_StairOk.T4 := by kernel_rfl
theorem impl_StairOk.bits4 : waitsOk impl_StairOk.T4.2 impl_StairOk.B4 = true := by kernel_rfl
set_option maxHeartbeats 200000000 in
set_option maxRecDepth 100000 in
theorem impl_StairOk.calls (k : Nat) (A0 : Option Addr) (c0 : Nat) (l0 : List (S36)) (r : Bool) (w : World) (hr0 : Kd.C k36 w A0 l0.length l0) (hc0 : l0.length ≤ c0) (h : impl_StairOk.f k l0 = some r) :
    Calls Try.prog 23 #[.slice A0 l0.length c0] w fun e w' => e = .returned (.bool r) ∧ Below w.heap.size w w' := by
  have hu36 := Try.underlying36
  have HR0 := Aside0.mk hr0
  have HC0 := Aside0.mk hc0
  clear hr0 hc0
  have HB := Aside0.mk (Below.refl w.heap.size w)
  have H : (impl_StairOk.l0 k l0 l0 (l0.length : Int) 0) = some r := h
  clear h
  have H' := Aside0.mk H
  clear H
  go_enter Try.func23, Try.ntmps23
  go_wp2
  go_loopg [7] k (fun kq v7 w' => ∃ (x7_1 : Int), v7 = .int .i64 x7_1 ∧ Aside0 (impl_StairOk.l0 kq l0 l0 (l0.length : Int) x7_1 = some r) ∧ Aside0 (kq ≤ k) ∧ Aside0 (Below w.heap.size w w'))
  case atStart => exact ⟨(0), ns_, H', ⟨Nat.le_refl _⟩, ⟨ne_ HB.out⟩⟩
  case round =>
   clear H'
   obtain ⟨x7_1, rfl, HA, HK1, HB⟩ := hrel
   cases gk with
   | zero => exact absurd HA.out (by simp [impl_StairOk.l0])
   | succ k1 =>
    have H := HA.out
    clear HA
    simp only [impl_StairOk.l0] at H
    by_cases c2 : x7_1 < (l0.length : Int)
    rotate_left
    ·rw [if_neg c2] at H
     have c2b0 : decide (x7_1 < (l0.length : Int)) = false := decide_eq_false c2
     clear c2
     obtain rfl := Option.some.inj H
     go_wp2
     go_ret
     exact ⟨nw_, ne_ HB.out⟩

    rw [if_pos c2] at H
    have c2b0 : decide (x7_1 < (l0.length : Int)) = true := decide_eq_true c2
    clear c2
    by_cases c3 : 0 ≤ x7_1
    rotate_left
    ·rw [if_neg c3] at H
     exact absurd H (by simp)
    rw [if_pos c3] at H
    have c3b0 : decide (0 ≤ x7_1) = true := decide_eq_true c3
    clear c3
    by_cases c4 : x7_1 < (l0.length : Int)
    rotate_left
    ·rw [if_neg c4] at H
     exact absurd H (by simp)
    rw [if_pos c4] at H
    have c4b0 : decide (x7_1 < (l0.length : Int)) = true := decide_eq_true c4
    clear c4
    replace H := Option.bind_eq_some_iff.mp H
    obtain ⟨t306, A50, H⟩ := H
    try dsimp only at H
    have A5 := Aside0.mk A50
    clear A50
    by_cases c6 : t306 = true
    rotate_left
    ·replace c6 := Bool.eq_false_iff.mpr c6
     subst c6
     have H1 : (some false) = some r := by rw [if_neg (show ¬ (false = true) by decide)] at H; exact H
     clear H
     have H := H1
     clear H1
     obtain rfl := Option.some.inj H
     have p304 : 0 ≤ (x7_1 : Int) := of_decide_eq_true nx_
     have q304 : x7_1 < (l0.length : Int) := of_decide_eq_true nx_
     obtain ⟨ad304, e304, hx304_0, hx304_1⟩ := at_T36 HR0.out x7_1 p304 q304
     cases e304
     replace hx304_0 := hb_ HB.out hx304_0
     replace hx304_1 := hb_ HB.out hx304_1
     replace p304 := eq_true p304
     replace q304 := eq_true q304
     try go_wp2_with (first | ((with_reducible refine gate_dst (N := 4) rfl ?_); refine bx_ 4 #[.int .i64 0, .int .i64 0] 36 ?_; intro gb305 hg w33 hbox hb; have BK305 := Aside0.mk (hbox); have GW305 := Aside0.mk (zs_ hg (ne_ HB.out)); have GE305 := Aside0.mk (zs_ hg (ne_ HB.out)); replace HB := kB_ HB hb; clear hb hbox hg; obtain ⟨hcz34_0, hcz34_1, hfz34_0, hfz34_1⟩ := cz2_ BK305.out))
     have n0_ : Aside0 (((w33.setCell ⟨gb305, 0, none⟩ (.int .i64 ((rd_T36 l0 x7_1).f0))).setCell ⟨gb305, 1, none⟩ (.int .i64 ((rd_T36 l0 x7_1).f1))).heap[gb305]? = some (.cells #[.int .i64 ((rd_T36 l0 x7_1).f0), .int .i64 ((rd_T36 l0 x7_1).f1)] 36 (0, 0))) := ⟨np_ BK305.out⟩
     have n1_ : Aside0 (Below w.heap.size w ((w33.setCell ⟨gb305, 0, none⟩ (.int .i64 ((rd_T36 l0 x7_1).f0))).setCell ⟨gb305, 1, none⟩ (.int .i64 ((rd_T36 l0 x7_1).f1)))) := ⟨ne_ HB.out⟩
     (try clear BK305)
     (try clear HB)
     generalize ((w33.setCell ⟨gb305, 0, none⟩ (.int .i64 ((rd_T36 l0 x7_1).f0))).setCell ⟨gb305, 1, none⟩ (.int .i64 ((rd_T36 l0 x7_1).f1))) = w35 at n0_ n1_ ⊢
     have BK305 := n0_
     have HB := n1_
     clear n0_ n1_
     replace BK305 := Aside0.mk (blk_drew BK305.out)
     replace HB := Aside0.mk (below_drew1 HB.out)
     refine start_ (n := 29) (S := fun w' => w'.cell? ⟨gb305, 0, none⟩ = some (.int .i64 ((rd_T36 l0 x7_1).f0)) ∧ w'.cell? ⟨gb305, 1, none⟩ = some (.int .i64 ((rd_T36 l0 x7_1).f1))) (ds := []) z23_0 (by kernel_rfl) rfl rfl ⟨ct_ BK305.out 0, ct_ BK305.out 1⟩ (fun hHeld => ?_); refine with_tabW impl_StairOk.tab4 impl_StairOk.bits4 (fun HT_ HW_ => ?_)
     generalize w35.drew = w36 at BK305 HB hHeld ⊢
     refine tk_ 0 12 z23_1 HT_.out HW_.out hHeld ?_
     refine one_ (i := 1) (N := some 13) z23_2 rfl rfl (one_of HT_.out (by kernel_rfl)) (by decide) (fun K hK => ?_)
     refine go_ Try.func39 #[.agg #[.int .i64 ((rd_T36 l0 x7_1).f0), .int .i64 ((rd_T36 l0 x7_1).f1)]] ?_
     with_reducible refine (impl_Step_valid.calls ((rd_T36 l0 x7_1).f0) ((rd_T36 l0 x7_1).f1) false _ A5.out).mono ?_
     rintro e w37 ⟨rfl, hb⟩
     refine ⟨_, rfl, ?_⟩
     replace BK305 := kb_ BK305 hb
     replace HB := kB_ HB hb
     (try clear hb)
     (try clear hb2)
     (try clear hk)
     (try clear hi)
     refine hK.out _ _ ⟨ct_ BK305.out 0, ct_ BK305.out 1⟩ (fun hHeld => ?_)
     clear hK K
     refine nm1_ (some 13) ?_
     refine pu_ 2 14 z23_3 HT_.out ?_
     refine pu_ 3 15 z23_4 HT_.out ?_
     refine un_ 4 16 z23_5 HT_.out ?_
     refine un_ 5 17 z23_6 HT_.out ?_
     refine un_ 6 18 z23_7 HT_.out ?_
     refine un_ 7 19 z23_8 HT_.out ?_
     refine un_ 8 20 z23_9 HT_.out ?_
     refine un_ 9 21 z23_10 HT_.out ?_
     refine un_ 10 22 z23_11 HT_.out ?_
     refine un_ 11 23 z23_12 HT_.out ?_
     refine un_ 12 24 z23_31 HT_.out ?_
     refine un_ 13 25 z23_14 HT_.out ?_
     refine un_ 14 26 z23_15 HT_.out ?_
     refine un_ 15 27 z23_16 HT_.out ?_
     refine un_ 16 28 z23_17 HT_.out ?_
     refine un_ 17 29 z23_18 HT_.out ?_
     refine un_ 18 30 z23_19 HT_.out ?_
     refine un_ 19 31 z23_20 HT_.out ?_
     refine un_ 20 32 z23_21 HT_.out ?_
     refine un_ 21 33 z23_22 HT_.out ?_
     refine un_ 22 34 z23_23 HT_.out ?_
     refine un_ 23 35 z23_24 HT_.out ?_
     refine un_ 24 36 z23_25 HT_.out ?_
     refine un_ 25 37 z23_26 HT_.out ?_
     refine un_ 26 38 z23_27 HT_.out ?_
     refine un_ 27 39 z23_28 HT_.out ?_
     refine pu_ 28 40 z23_29 HT_.out ?_
     refine done_ (done_of HT_.out (by kernel_rfl)) ?_
     try go_wp2
     go_ret
     exact ⟨nw_, ne_ HB.out⟩
    subst c6
    rw [if_pos rfl] at H
    by_cases c7 : x7_1 > 0
    rotate_left
    ·rw [if_neg c7] at H
     have c7b0 : decide (0 < x7_1) = false := decide_eq_false c7
     clear c7
     have H' := Aside0.mk H
     clear H
     have p304 : 0 ≤ (x7_1 : Int) := of_decide_eq_true nx_
     have q304 : x7_1 < (l0.length : Int) := of_decide_eq_true nx_
     obtain ⟨ad304, e304, hx304_0, hx304_1⟩ := at_T36 HR0.out x7_1 p304 q304
     cases e304
     replace hx304_0 := hb_ HB.out hx304_0
     replace hx304_1 := hb_ HB.out hx304_1
     replace p304 := eq_true p304
     replace q304 := eq_true q304
     try go_wp2_with (first | ((with_reducible refine gate_dst (N := 4) rfl ?_); refine bx_ 4 #[.int .i64 0, .int .i64 0] 36 ?_; intro gb305 hg w28 hbox hb; have BK305 := Aside0.mk (hbox); have GW305 := Aside0.mk (zs_ hg (ne_ HB.out)); have GE305 := Aside0.mk (zs_ hg (ne_ HB.out)); replace HB := kB_ HB hb; clear hb hbox hg; obtain ⟨hcz29_0, hcz29_1, hfz29_0, hfz29_1⟩ := cz2_ BK305.out))
     have n0_ : Aside0 (((w28.setCell ⟨gb305, 0, none⟩ (.int .i64 ((rd_T36 l0 x7_1).f0))).setCell ⟨gb305, 1, none⟩ (.int .i64 ((rd_T36 l0 x7_1).f1))).heap[gb305]? = some (.cells #[.int .i64 ((rd_T36 l0 x7_1).f0), .int .i64 ((rd_T36 l0 x7_1).f1)] 36 (0, 0))) := ⟨np_ BK305.out⟩
     have n1_ : Aside0 (Below w.heap.size w ((w28.setCell ⟨gb305, 0, none⟩ (.int .i64 ((rd_T36 l0 x7_1).f0))).setCell ⟨gb305, 1, none⟩ (.int .i64 ((rd_T36 l0 x7_1).f1)))) := ⟨ne_ HB.out⟩
     (try clear BK305)
     (try clear HB)
     generalize ((w28.setCell ⟨gb305, 0, none⟩ (.int .i64 ((rd_T36 l0 x7_1).f0))).setCell ⟨gb305, 1, none⟩ (.int .i64 ((rd_T36 l0 x7_1).f1))) = w30 at n0_ n1_ ⊢
     have BK305 := n0_
     have HB := n1_
     clear n0_ n1_
     replace BK305 := Aside0.mk (blk_drew BK305.out)
     replace HB := Aside0.mk (below_drew1 HB.out)
     refine start_ (n := 29) (S := fun w' => w'.cell? ⟨gb305, 0, none⟩ = some (.int .i64 ((rd_T36 l0 x7_1).f0)) ∧ w'.cell? ⟨gb305, 1, none⟩ = some (.int .i64 ((rd_T36 l0 x7_1).f1))) (ds := []) z23_0 (by kernel_rfl) rfl rfl ⟨ct_ BK305.out 0, ct_ BK305.out 1⟩ (fun hHeld => ?_); refine with_tabW impl_StairOk.tab4 impl_StairOk.bits4 (fun HT_ HW_ => ?_)
     generalize w30.drew = w31 at BK305 HB hHeld ⊢
     refine tk_ 0 12 z23_1 HT_.out HW_.out hHeld ?_
     refine one_ (i := 1) (N := some 13) z23_2 rfl rfl (one_of HT_.out (by kernel_rfl)) (by decide) (fun K hK => ?_)
     refine go_ Try.func39 #[.agg #[.int .i64 ((rd_T36 l0 x7_1).f0), .int .i64 ((rd_T36 l0 x7_1).f1)]] ?_
     with_reducible refine (impl_Step_valid.calls ((rd_T36 l0 x7_1).f0) ((rd_T36 l0 x7_1).f1) true _ A5.out).mono ?_
     rintro e w32 ⟨rfl, hb⟩
     refine ⟨_, rfl, ?_⟩
     replace BK305 := kb_ BK305 hb
     replace HB := kB_ HB hb
     (try clear hb)
     (try clear hb2)
     (try clear hk)
     (try clear hi)
     refine hK.out _ _ ⟨ct_ BK305.out 0, ct_ BK305.out 1⟩ (fun hHeld => ?_)
     clear hK K
     refine nm1_ (some 13) ?_
     refine pu_ 2 14 z23_3 HT_.out ?_
     refine pu_ 3 15 z23_4 HT_.out ?_
     refine pu_ 4 16 z23_5 HT_.out ?_
     refine pu_ 5 17 z23_6 HT_.out ?_
     refine pu_ 6 18 z23_7 HT_.out ?_
     refine un_ 7 19 z23_8 HT_.out ?_
     refine un_ 8 20 z23_9 HT_.out ?_
     refine un_ 9 21 z23_10 HT_.out ?_
     refine un_ 10 22 z23_11 HT_.out ?_
     refine un_ 11 23 z23_12 HT_.out ?_
     refine un_ 12 24 z23_31 HT_.out ?_
     refine un_ 13 25 z23_14 HT_.out ?_
     refine un_ 14 26 z23_15 HT_.out ?_
     refine un_ 15 27 z23_16 HT_.out ?_
     refine un_ 16 28 z23_17 HT_.out ?_
     refine un_ 17 29 z23_18 HT_.out ?_
     refine un_ 18 30 z23_19 HT_.out ?_
     refine un_ 19 31 z23_20 HT_.out ?_
     refine un_ 20 32 z23_21 HT_.out ?_
     refine un_ 21 33 z23_22 HT_.out ?_
     refine un_ 22 34 z23_23 HT_.out ?_
     refine un_ 23 35 z23_24 HT_.out ?_
     refine un_ 24 36 z23_25 HT_.out ?_
     refine un_ 25 37 z23_26 HT_.out ?_
     refine un_ 26 38 z23_27 HT_.out ?_
     refine pu_ 27 39 z23_28 HT_.out ?_
     refine pu_ 28 40 z23_29 HT_.out ?_
     refine done_ (done_of HT_.out (by kernel_rfl)) ?_
     try go_wp2
     go_roundg k1
     case measure => have := HK1.out; omega
     case rel => exact ⟨(wrap64 (x7_1 + 1)), ns_, H', ⟨by have := HK1.out; omega⟩, ⟨ne_ HB.out⟩⟩
    rw [if_pos c7] at H
    have c7b0 : decide (0 < x7_1) = true := decide_eq_true c7
    clear c7
    obtain ⟨ji8, hji8⟩ : ∃ j_ : Int, (wrap64 (x7_1 - 1)) = j_ := ⟨_, rfl⟩
    replace H : (if 0 ≤ (ji8) then (if (ji8) < (l0.length : Int) then (if ((rd_T36 l0 (ji8)).f0) ≥ ((rd_T36 l0 x7_1).f0) then (some false) else (if ((rd_T36 l0 (ji8)).f1) ≥ ((rd_T36 l0 x7_1).f1) then (some false) else (impl_StairOk.l0 k1 l0 l0 (l0.length : Int) (wrap64 (x7_1 + 1))))) else (none)) else (none)) = some r := by first | (rw [hji8] at H; exact H) | (simp only [hji8] at H ⊢; exact H)
    (try rw [hji8] at A5)
    have hji8w : (IntKind.i64.wrap (x7_1 - 1)) = ji8 := (i64_w _).trans hji8
    by_cases c9 : 0 ≤ (ji8)
    rotate_left
    ·rw [if_neg c9] at H
     exact absurd H (by simp)
    rw [if_pos c9] at H
    have c9b0 : decide (0 ≤ (ji8)) = true := decide_eq_true c9
    clear c9
    by_cases c10 : (ji8) < (l0.length : Int)
    rotate_left
    ·rw [if_neg c10] at H
     exact absurd H (by simp)
    rw [if_pos c10] at H
    have c10b0 : decide ((ji8) < (l0.length : Int)) = true := decide_eq_true c10
    clear c10
    by_cases c11 : ((rd_T36 l0 (ji8)).f0) ≥ ((rd_T36 l0 x7_1).f0)
    ·rw [if_pos c11] at H
     have c11b0 : decide (((rd_T36 l0 x7_1).f0) ≤ ((rd_T36 l0 (ji8)).f0)) = true := decide_eq_true c11
     clear c11
     obtain rfl := Option.some.inj H
     have p304 : 0 ≤ (x7_1 : Int) := of_decide_eq_true nx_
     have q304 : x7_1 < (l0.length : Int) := of_decide_eq_true nx_
     obtain ⟨ad304, e304, hx304_0, hx304_1⟩ := at_T36 HR0.out x7_1 p304 q304
     cases e304
     replace hx304_0 := hb_ HB.out hx304_0
     replace hx304_1 := hb_ HB.out hx304_1
     replace p304 := eq_true p304
     replace q304 := eq_true q304
     try go_wp2_with (first | ((with_reducible refine gate_dst (N := 4) rfl ?_); refine bx_ 4 #[.int .i64 0, .int .i64 0] 36 ?_; intro gb305 hg w12 hbox hb; have BK305 := Aside0.mk (hbox); have GW305 := Aside0.mk (zs_ hg (ne_ HB.out)); have GE305 := Aside0.mk (zs_ hg (ne_ HB.out)); replace HB := kB_ HB hb; clear hb hbox hg; obtain ⟨hcz13_0, hcz13_1, hfz13_0, hfz13_1⟩ := cz2_ BK305.out))
     have n0_ : Aside0 (((w12.setCell ⟨gb305, 0, none⟩ (.int .i64 ((rd_T36 l0 x7_1).f0))).setCell ⟨gb305, 1, none⟩ (.int .i64 ((rd_T36 l0 x7_1).f1))).heap[gb305]? = some (.cells #[.int .i64 ((rd_T36 l0 x7_1).f0), .int .i64 ((rd_T36 l0 x7_1).f1)] 36 (0, 0))) := ⟨np_ BK305.out⟩
     have n1_ : Aside0 (Below w.heap.size w ((w12.setCell ⟨gb305, 0, none⟩ (.int .i64 ((rd_T36 l0 x7_1).f0))).setCell ⟨gb305, 1, none⟩ (.int .i64 ((rd_T36 l0 x7_1).f1)))) := ⟨ne_ HB.out⟩
     (try clear BK305)
     (try clear HB)
     generalize ((w12.setCell ⟨gb305, 0, none⟩ (.int .i64 ((rd_T36 l0 x7_1).f0))).setCell ⟨gb305, 1, none⟩ (.int .i64 ((rd_T36 l0 x7_1).f1))) = w14 at n0_ n1_ ⊢
     have BK305 := n0_
     have HB := n1_
     clear n0_ n1_
     replace BK305 := Aside0.mk (blk_drew BK305.out)
     replace HB := Aside0.mk (below_drew1 HB.out)
     have p307 : 0 ≤ ((ji8) : Int) := of_decide_eq_true nx_
     have q307 : (ji8) < (l0.length : Int) := of_decide_eq_true nx_
     obtain ⟨ad307, e307, hx307_0, hx307_1⟩ := at_T36 HR0.out (ji8) p307 q307
     have hw307_1 := hx307_1
     have hw307_0 := hx307_0
     obtain rfl : ad304 = ad307 := (by injection e307)
     replace hx307_0 := hb_ HB.out hx307_0
     replace hx307_1 := hb_ HB.out hx307_1
     replace p307 := eq_true p307
     replace q307 := eq_true q307
     refine start_ (n := 29) (S := fun w' => w'.cell? ⟨gb305, 0, none⟩ = some (.int .i64 ((rd_T36 l0 x7_1).f0)) ∧ w'.cell? ⟨gb305, 1, none⟩ = some (.int .i64 ((rd_T36 l0 x7_1).f1)) ∧ w'.cell? (ad304.add (((ji8)).toNat * 2)) = some (.int .i64 ((rd_T36 l0 (ji8)).f0)) ∧ w'.cell? ⟨(ad304.add (((ji8)).toNat * 2)).block, (ad304.add (((ji8)).toNat * 2)).off + 1, none⟩ = some (.int .i64 ((rd_T36 l0 (ji8)).f1))) (ds := []) z23_0 (by kernel_rfl) rfl rfl ⟨ct_ BK305.out 0, ct_ BK305.out 1, ((HB.out.cell (World.block_lt_of_cell? w _ hw307_0)).trans hw307_0), ((HB.out.cell (World.block_lt_of_cell? w _ hw307_1)).trans hw307_1)⟩ (fun hHeld => ?_); refine with_tabW impl_StairOk.tab4 impl_StairOk.bits4 (fun HT_ HW_ => ?_)
     generalize w14.drew = w15 at BK305 HB hx307_0 hx307_1 hHeld ⊢
     refine tk_ 0 12 z23_1 HT_.out HW_.out hHeld ?_
     refine one_ (i := 1) (N := some 13) z23_2 rfl rfl (one_of HT_.out (by kernel_rfl)) (by decide) (fun K hK => ?_)
     refine go_ Try.func39 #[.agg #[.int .i64 ((rd_T36 l0 x7_1).f0), .int .i64 ((rd_T36 l0 x7_1).f1)]] ?_
     with_reducible refine (impl_Step_valid.calls ((rd_T36 l0 x7_1).f0) ((rd_T36 l0 x7_1).f1) true _ A5.out).mono ?_
     rintro e w16 ⟨rfl, hb⟩
     refine ⟨_, rfl, ?_⟩
     replace BK305 := kb_ BK305 hb
     replace HB := kB_ HB hb
     (try clear hb)
     (try clear hb2)
     (try clear hk)
     (try clear hi)
     refine hK.out _ _ ⟨ct_ BK305.out 0, ct_ BK305.out 1, ((HB.out.cell (World.block_lt_of_cell? w _ hw307_0)).trans hw307_0), ((HB.out.cell (World.block_lt_of_cell? w _ hw307_1)).trans hw307_1)⟩ (fun hHeld => ?_)
     clear hK K
     refine nm1_ (some 13) ?_
     refine pu_ 2 14 z23_3 HT_.out ?_
     refine pu_ 3 15 z23_4 HT_.out ?_
     refine pu_ 4 16 z23_5 HT_.out ?_
     refine pu_ 5 17 z23_6 HT_.out ?_
     refine pu_ 6 18 z23_7 HT_.out ?_
     refine pu_ 7 19 z23_8 HT_.out ?_
     refine pu_ 8 20 z23_9 HT_.out ?_
     refine pu_ 9 21 z23_10 HT_.out ?_
     refine pu_ 10 22 z23_11 HT_.out ?_
     refine pu_ 11 23 z23_12 HT_.out ?_
     refine pu_ 13 25 z23_13 HT_.out ?_
     refine tk_ 12 24 z23_14 HT_.out HW_.out hHeld ?_
     refine tk_ 14 26 z23_15 HT_.out HW_.out hHeld ?_
     refine pu_ 15 27 z23_16 HT_.out ?_
     refine pu_ 16 28 z23_17 HT_.out ?_
     refine un_ 17 29 z23_18 HT_.out ?_
     refine un_ 18 30 z23_19 HT_.out ?_
     refine un_ 19 31 z23_20 HT_.out ?_
     refine un_ 20 32 z23_21 HT_.out ?_
     refine un_ 21 33 z23_22 HT_.out ?_
     refine un_ 22 34 z23_23 HT_.out ?_
     refine un_ 23 35 z23_24 HT_.out ?_
     refine un_ 24 36 z23_25 HT_.out ?_
     refine un_ 25 37 z23_26 HT_.out ?_
     refine pu_ 26 38 z23_27 HT_.out ?_
     refine pu_ 27 39 z23_28 HT_.out ?_
     refine pu_ 28 40 z23_29 HT_.out ?_
     refine done_ (done_of HT_.out (by kernel_rfl)) ?_
     try go_wp2
     go_ret
     exact ⟨by first | rfl | (simp [errW_none, errW_some] <;> rfl) | (simp only [← hji8]; first | rfl | (simp [errW_none, errW_some] <;> rfl)) | (simp [*, errW_none, errW_some] <;> rfl), ne_ HB.out⟩
    rw [if_neg c11] at H
    have c11b0 : decide (((rd_T36 l0 x7_1).f0) ≤ ((rd_T36 l0 (ji8)).f0)) = false := decide_eq_false c11
    clear c11
    by_cases c17 : ((rd_T36 l0 (ji8)).f1) ≥ ((rd_T36 l0 x7_1).f1)
    rotate_left
    ·rw [if_neg c17] at H
     have c17b0 : decide (((rd_T36 l0 x7_1).f1) ≤ ((rd_T36 l0 (ji8)).f1)) = false := decide_eq_false c17
     clear c17
     have H' := Aside0.mk H
     clear H
     have p304 : 0 ≤ (x7_1 : Int) := of_decide_eq_true nx_
     have q304 : x7_1 < (l0.length : Int) := of_decide_eq_true nx_
     obtain ⟨ad304, e304, hx304_0, hx304_1⟩ := at_T36 HR0.out x7_1 p304 q304
     cases e304
     replace hx304_0 := hb_ HB.out hx304_0
     replace hx304_1 := hb_ HB.out hx304_1
     replace p304 := eq_true p304
     replace q304 := eq_true q304
     try go_wp2_with (first | ((with_reducible refine gate_dst (N := 4) rfl ?_); refine bx_ 4 #[.int .i64 0, .int .i64 0] 36 ?_; intro gb305 hg w23 hbox hb; have BK305 := Aside0.mk (hbox); have GW305 := Aside0.mk (zs_ hg (ne_ HB.out)); have GE305 := Aside0.mk (zs_ hg (ne_ HB.out)); replace HB := kB_ HB hb; clear hb hbox hg; obtain ⟨hcz24_0, hcz24_1, hfz24_0, hfz24_1⟩ := cz2_ BK305.out))
     have n0_ : Aside0 (((w23.setCell ⟨gb305, 0, none⟩ (.int .i64 ((rd_T36 l0 x7_1).f0))).setCell ⟨gb305, 1, none⟩ (.int .i64 ((rd_T36 l0 x7_1).f1))).heap[gb305]? = some (.cells #[.int .i64 ((rd_T36 l0 x7_1).f0), .int .i64 ((rd_T36 l0 x7_1).f1)] 36 (0, 0))) := ⟨np_ BK305.out⟩
     have n1_ : Aside0 (Below w.heap.size w ((w23.setCell ⟨gb305, 0, none⟩ (.int .i64 ((rd_T36 l0 x7_1).f0))).setCell ⟨gb305, 1, none⟩ (.int .i64 ((rd_T36 l0 x7_1).f1)))) := ⟨ne_ HB.out⟩
     (try clear BK305)
     (try clear HB)
     generalize ((w23.setCell ⟨gb305, 0, none⟩ (.int .i64 ((rd_T36 l0 x7_1).f0))).setCell ⟨gb305, 1, none⟩ (.int .i64 ((rd_T36 l0 x7_1).f1))) = w25 at n0_ n1_ ⊢
     have BK305 := n0_
     have HB := n1_
     clear n0_ n1_
     replace BK305 := Aside0.mk (blk_drew BK305.out)
     replace HB := Aside0.mk (below_drew1 HB.out)
     have p307 : 0 ≤ ((ji8) : Int) := of_decide_eq_true nx_
     have q307 : (ji8) < (l0.length : Int) := of_decide_eq_true nx_
     obtain ⟨ad307, e307, hx307_0, hx307_1⟩ := at_T36 HR0.out (ji8) p307 q307
     have hw307_1 := hx307_1
     have hw307_0 := hx307_0
     obtain rfl : ad304 = ad307 := (by injection e307)
     replace hx307_0 := hb_ HB.out hx307_0
     replace hx307_1 := hb_ HB.out hx307_1
     replace p307 := eq_true p307
     replace q307 := eq_true q307
     have p308 : 0 ≤ ((ji8) : Int) := of_decide_eq_true nx_
     have q308 : (ji8) < (l0.length : Int) := of_decide_eq_true nx_
     obtain ⟨ad308, e308, hx308_0, hx308_1⟩ := at_T36 HR0.out (ji8) p308 q308
     have hw308_1 := hx308_1
     have hw308_0 := hx308_0
     obtain rfl : ad304 = ad308 := (by injection e308)
     replace hx308_0 := hb_ HB.out hx308_0
     replace hx308_1 := hb_ HB.out hx308_1
     replace p308 := eq_true p308
     replace q308 := eq_true q308
     refine start_ (n := 29) (S := fun w' => w'.cell? ⟨gb305, 0, none⟩ = some (.int .i64 ((rd_T36 l0 x7_1).f0)) ∧ w'.cell? ⟨gb305, 1, none⟩ = some (.int .i64 ((rd_T36 l0 x7_1).f1)) ∧ w'.cell? (ad304.add (((ji8)).toNat * 2)) = some (.int .i64 ((rd_T36 l0 (ji8)).f0)) ∧ w'.cell? ⟨(ad304.add (((ji8)).toNat * 2)).block, (ad304.add (((ji8)).toNat * 2)).off + 1, none⟩ = some (.int .i64 ((rd_T36 l0 (ji8)).f1)) ∧ w'.cell? (ad304.add (((ji8)).toNat * 2)) = some (.int .i64 ((rd_T36 l0 (ji8)).f0)) ∧ w'.cell? ⟨(ad304.add (((ji8)).toNat * 2)).block, (ad304.add (((ji8)).toNat * 2)).off + 1, none⟩ = some (.int .i64 ((rd_T36 l0 (ji8)).f1))) (ds := []) z23_0 (by kernel_rfl) rfl rfl ⟨ct_ BK305.out 0, ct_ BK305.out 1, ((HB.out.cell (World.block_lt_of_cell? w _ hw307_0)).trans hw307_0), ((HB.out.cell (World.block_lt_of_cell? w _ hw307_1)).trans hw307_1), ((HB.out.cell (World.block_lt_of_cell? w _ hw308_0)).trans hw308_0), ((HB.out.cell (World.block_lt_of_cell? w _ hw308_1)).trans hw308_1)⟩ (fun hHeld => ?_); refine with_tabW impl_StairOk.tab4 impl_StairOk.bits4 (fun HT_ HW_ => ?_)
     generalize w25.drew = w26 at BK305 HB hx307_0 hx307_1 hx308_0 hx308_1 hHeld ⊢
     refine tk_ 0 12 z23_1 HT_.out HW_.out hHeld ?_
     refine one_ (i := 1) (N := some 13) z23_2 rfl rfl (one_of HT_.out (by kernel_rfl)) (by decide) (fun K hK => ?_)
     refine go_ Try.func39 #[.agg #[.int .i64 ((rd_T36 l0 x7_1).f0), .int .i64 ((rd_T36 l0 x7_1).f1)]] ?_
     with_reducible refine (impl_Step_valid.calls ((rd_T36 l0 x7_1).f0) ((rd_T36 l0 x7_1).f1) true _ A5.out).mono ?_
     rintro e w27 ⟨rfl, hb⟩
     refine ⟨_, rfl, ?_⟩
     replace BK305 := kb_ BK305 hb
     replace HB := kB_ HB hb
     (try clear hb)
     (try clear hb2)
     (try clear hk)
     (try clear hi)
     refine hK.out _ _ ⟨ct_ BK305.out 0, ct_ BK305.out 1, ((HB.out.cell (World.block_lt_of_cell? w _ hw307_0)).trans hw307_0), ((HB.out.cell (World.block_lt_of_cell? w _ hw307_1)).trans hw307_1), ((HB.out.cell (World.block_lt_of_cell? w _ hw308_0)).trans hw308_0), ((HB.out.cell (World.block_lt_of_cell? w _ hw308_1)).trans hw308_1)⟩ (fun hHeld => ?_)
     clear hK K
     refine nm1_ (some 13) ?_
     refine pu_ 2 14 z23_3 HT_.out ?_
     refine pu_ 3 15 z23_4 HT_.out ?_
     refine pu_ 4 16 z23_5 HT_.out ?_
     refine pu_ 5 17 z23_6 HT_.out ?_
     refine pu_ 6 18 z23_7 HT_.out ?_
     refine pu_ 7 19 z23_8 HT_.out ?_
     refine pu_ 8 20 z23_9 HT_.out ?_
     refine pu_ 9 21 z23_10 HT_.out ?_
     refine pu_ 10 22 z23_11 HT_.out ?_
     refine pu_ 11 23 z23_12 HT_.out ?_
     refine pu_ 13 25 z23_13 HT_.out ?_
     refine tk_ 12 24 z23_14 HT_.out HW_.out hHeld ?_
     refine tk_ 14 26 z23_15 HT_.out HW_.out hHeld ?_
     refine pu_ 15 27 z23_16 HT_.out ?_
     refine pu_ 16 28 z23_17 HT_.out ?_
     refine pu_ 17 29 z23_18 HT_.out ?_
     refine pu_ 18 30 z23_19 HT_.out ?_
     refine pu_ 19 31 z23_20 HT_.out ?_
     refine pu_ 20 32 z23_21 HT_.out ?_
     refine pu_ 21 33 z23_22 HT_.out ?_
     refine pu_ 23 35 z23_30 HT_.out ?_
     refine tk_ 22 34 z23_24 HT_.out HW_.out hHeld ?_
     refine tk_ 24 36 z23_25 HT_.out HW_.out hHeld ?_
     refine pu_ 25 37 z23_26 HT_.out ?_
     refine pu_ 26 38 z23_27 HT_.out ?_
     refine pu_ 27 39 z23_28 HT_.out ?_
     refine pu_ 28 40 z23_29 HT_.out ?_
     refine done_ (done_of HT_.out (by kernel_rfl)) ?_
     try go_wp2
     go_roundg k1
     case measure => have := HK1.out; omega
     case rel => exact ⟨(wrap64 (x7_1 + 1)), ns_, H', ⟨by have := HK1.out; omega⟩, ⟨ne_ HB.out⟩⟩
    rw [if_pos c17] at H
    have c17b0 : decide (((rd_T36 l0 x7_1).f1) ≤ ((rd_T36 l0 (ji8)).f1)) = true := decide_eq_true c17
    clear c17
    obtain rfl := Option.some.inj H
    have p304 : 0 ≤ (x7_1 : Int) := of_decide_eq_true nx_
    have q304 : x7_1 < (l0.length : Int) := of_decide_eq_true nx_
    obtain ⟨ad304, e304, hx304_0, hx304_1⟩ := at_T36 HR0.out x7_1 p304 q304
    cases e304
    replace hx304_0 := hb_ HB.out hx304_0
    replace hx304_1 := hb_ HB.out hx304_1
    replace p304 := eq_true p304
    replace q304 := eq_true q304
    try go_wp2_with (first | ((with_reducible refine gate_dst (N := 4) rfl ?_); refine bx_ 4 #[.int .i64 0, .int .i64 0] 36 ?_; intro gb305 hg w18 hbox hb; have BK305 := Aside0.mk (hbox); have GW305 := Aside0.mk (zs_ hg (ne_ HB.out)); have GE305 := Aside0.mk (zs_ hg (ne_ HB.out)); replace HB := kB_ HB hb; clear hb hbox hg; obtain ⟨hcz19_0, hcz19_1, hfz19_0, hfz19_1⟩ := cz2_ BK305.out))
    have n0_ : Aside0 (((w18.setCell ⟨gb305, 0, none⟩ (.int .i64 ((rd_T36 l0 x7_1).f0))).setCell ⟨gb305, 1, none⟩ (.int .i64 ((rd_T36 l0 x7_1).f1))).heap[gb305]? = some (.cells #[.int .i64 ((rd_T36 l0 x7_1).f0), .int .i64 ((rd_T36 l0 x7_1).f1)] 36 (0, 0))) := ⟨np_ BK305.out⟩
    have n1_ : Aside0 (Below w.heap.size w ((w18.setCell ⟨gb305, 0, none⟩ (.int .i64 ((rd_T36 l0 x7_1).f0))).setCell ⟨gb305, 1, none⟩ (.int .i64 ((rd_T36 l0 x7_1).f1)))) := ⟨ne_ HB.out⟩
    (try clear BK305)
    (try clear HB)
    generalize ((w18.setCell ⟨gb305, 0, none⟩ (.int .i64 ((rd_T36 l0 x7_1).f0))).setCell ⟨gb305, 1, none⟩ (.int .i64 ((rd_T36 l0 x7_1).f1))) = w20 at n0_ n1_ ⊢
    have BK305 := n0_
    have HB := n1_
    clear n0_ n1_
    replace BK305 := Aside0.mk (blk_drew BK305.out)
    replace HB := Aside0.mk (below_drew1 HB.out)
    have p307 : 0 ≤ ((ji8) : Int) := of_decide_eq_true nx_
    have q307 : (ji8) < (l0.length : Int) := of_decide_eq_true nx_
    obtain ⟨ad307, e307, hx307_0, hx307_1⟩ := at_T36 HR0.out (ji8) p307 q307
    have hw307_1 := hx307_1
    have hw307_0 := hx307_0
    obtain rfl : ad304 = ad307 := (by injection e307)
    replace hx307_0 := hb_ HB.out hx307_0
    replace hx307_1 := hb_ HB.out hx307_1
    replace p307 := eq_true p307
    replace q307 := eq_true q307
    have p308 : 0 ≤ ((ji8) : Int) := of_decide_eq_true nx_
    have q308 : (ji8) < (l0.length : Int) := of_decide_eq_true nx_
    obtain ⟨ad308, e308, hx308_0, hx308_1⟩ := at_T36 HR0.out (ji8) p308 q308
    have hw308_1 := hx308_1
    have hw308_0 := hx308_0
    obtain rfl : ad304 = ad308 := (by injection e308)
    replace hx308_0 := hb_ HB.out hx308_0
    replace hx308_1 := hb_ HB.out hx308_1
    replace p308 := eq_true p308
    replace q308 := eq_true q308
    refine start_ (n := 29) (S := fun w' => w'.cell? ⟨gb305, 0, none⟩ = some (.int .i64 ((rd_T36 l0 x7_1).f0)) ∧ w'.cell? ⟨gb305, 1, none⟩ = some (.int .i64 ((rd_T36 l0 x7_1).f1)) ∧ w'.cell? (ad304.add (((ji8)).toNat * 2)) = some (.int .i64 ((rd_T36 l0 (ji8)).f0)) ∧ w'.cell? ⟨(ad304.add (((ji8)).toNat * 2)).block, (ad304.add (((ji8)).toNat * 2)).off + 1, none⟩ = some (.int .i64 ((rd_T36 l0 (ji8)).f1)) ∧ w'.cell? (ad304.add (((ji8)).toNat * 2)) = some (.int .i64 ((rd_T36 l0 (ji8)).f0)) ∧ w'.cell? ⟨(ad304.add (((ji8)).toNat * 2)).block, (ad304.add (((ji8)).toNat * 2)).off + 1, none⟩ = some (.int .i64 ((rd_T36 l0 (ji8)).f1))) (ds := []) z23_0 (by kernel_rfl) rfl rfl ⟨ct_ BK305.out 0, ct_ BK305.out 1, ((HB.out.cell (World.block_lt_of_cell? w _ hw307_0)).trans hw307_0), ((HB.out.cell (World.block_lt_of_cell? w _ hw307_1)).trans hw307_1), ((HB.out.cell (World.block_lt_of_cell? w _ hw308_0)).trans hw308_0), ((HB.out.cell (World.block_lt_of_cell? w _ hw308_1)).trans hw308_1)⟩ (fun hHeld => ?_); refine with_tabW impl_StairOk.tab4 impl_StairOk.bits4 (fun HT_ HW_ => ?_)
    generalize w20.drew = w21 at BK305 HB hx307_0 hx307_1 hx308_0 hx308_1 hHeld ⊢
    refine tk_ 0 12 z23_1 HT_.out HW_.out hHeld ?_
    refine one_ (i := 1) (N := some 13) z23_2 rfl rfl (one_of HT_.out (by kernel_rfl)) (by decide) (fun K hK => ?_)
    refine go_ Try.func39 #[.agg #[.int .i64 ((rd_T36 l0 x7_1).f0), .int .i64 ((rd_T36 l0 x7_1).f1)]] ?_
    with_reducible refine (impl_Step_valid.calls ((rd_T36 l0 x7_1).f0) ((rd_T36 l0 x7_1).f1) true _ A5.out).mono ?_
    rintro e w22 ⟨rfl, hb⟩
    refine ⟨_, rfl, ?_⟩
    replace BK305 := kb_ BK305 hb
    replace HB := kB_ HB hb
    (try clear hb)
    (try clear hb2)
    (try clear hk)
    (try clear hi)
    refine hK.out _ _ ⟨ct_ BK305.out 0, ct_ BK305.out 1, ((HB.out.cell (World.block_lt_of_cell? w _ hw307_0)).trans hw307_0), ((HB.out.cell (World.block_lt_of_cell? w _ hw307_1)).trans hw307_1), ((HB.out.cell (World.block_lt_of_cell? w _ hw308_0)).trans hw308_0), ((HB.out.cell (World.block_lt_of_cell? w _ hw308_1)).trans hw308_1)⟩ (fun hHeld => ?_)
    clear hK K
    refine nm1_ (some 13) ?_
    refine pu_ 2 14 z23_3 HT_.out ?_
    refine pu_ 3 15 z23_4 HT_.out ?_
    refine pu_ 4 16 z23_5 HT_.out ?_
    refine pu_ 5 17 z23_6 HT_.out ?_
    refine pu_ 6 18 z23_7 HT_.out ?_
    refine pu_ 7 19 z23_8 HT_.out ?_
    refine pu_ 8 20 z23_9 HT_.out ?_
    refine pu_ 9 21 z23_10 HT_.out ?_
    refine pu_ 10 22 z23_11 HT_.out ?_
    refine pu_ 11 23 z23_12 HT_.out ?_
    refine pu_ 13 25 z23_13 HT_.out ?_
    refine tk_ 12 24 z23_14 HT_.out HW_.out hHeld ?_
    refine tk_ 14 26 z23_15 HT_.out HW_.out hHeld ?_
    refine pu_ 15 27 z23_16 HT_.out ?_
    refine pu_ 16 28 z23_17 HT_.out ?_
    refine pu_ 17 29 z23_18 HT_.out ?_
    refine pu_ 18 30 z23_19 HT_.out ?_
    refine pu_ 19 31 z23_20 HT_.out ?_
    refine pu_ 20 32 z23_21 HT_.out ?_
    refine pu_ 21 33 z23_22 HT_.out ?_
    refine pu_ 23 35 z23_30 HT_.out ?_
    refine tk_ 22 34 z23_24 HT_.out HW_.out hHeld ?_
    refine tk_ 24 36 z23_25 HT_.out HW_.out hHeld ?_
    refine pu_ 25 37 z23_26 HT_.out ?_
    refine pu_ 26 38 z23_27 HT_.out ?_
    refine pu_ 27 39 z23_28 HT_.out ?_
    refine pu_ 28 40 z23_29 HT_.out ?_
    refine done_ (done_of HT_.out (by kernel_rfl)) ?_
    try go_wp2
    go_ret
    exact ⟨by first | rfl | (simp [errW_none, errW_some] <;> rfl) | (simp only [← hji8]; first | rfl | (simp [errW_none, errW_some] <;> rfl)) | (simp [*, errW_none, errW_some] <;> rfl), ne_ HB.out⟩
end Go.Proofs.Ytfpfaaibgaejjaa.Print
