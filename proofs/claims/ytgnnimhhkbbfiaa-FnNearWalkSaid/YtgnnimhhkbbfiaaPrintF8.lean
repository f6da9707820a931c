-- Made by this session's own program (wip/patch_print.py, over the kit's print). Lean checks it.
import Derived.Test.YtgnnimhhkbbfiaaPrint0
import Derived.Test.YtgnnimhhkbbfiaaPrintF20
namespace Go.Proofs.Ytgnnimhhkbbfiaa.Print
open Go.RowKit Go.Proofs.YtgnnimhhkbbfiaaW.PrintWords Go.Proofs.YtgnnimhhkbbfiaaW.PrintLast Go.Proofs.YtgnnimhhkbbfiaaW.PrintMore Go.Proofs.YtgnnimhhkbbfiaaX
attribute [local go_sem] max2_int min2_int max_two min_two max_three min_three max_four min_four   -- for this text's walks alone
set_option linter.unusedVariables false
set_option linter.unusedSimpArgs false

abbrev z8_0 := bm_ 31 0
abbrev z8_1 := bm_ 31 2
abbrev z8_2 := bm_ 31 3
abbrev z8_3 := bm_ 31 7
abbrev z8_4 := bm_ 31 15
abbrev z8_5 := bm_ 31 31
abbrev z8_6 := bm_ 31 95
abbrev z8_7 := bm_ 31 223
abbrev z8_8 := bm_ 31 4319
abbrev z8_9 := bm_ 31 4351
abbrev z8_10 := bm_ 31 4607
abbrev z8_11 := bm_ 31 5119
abbrev z8_12 := bm_ 31 6143
abbrev z8_13 := bm_ 31 8191
abbrev z8_14 := bm_ 31 16383
abbrev z8_15 := bm_ 31 32767
abbrev z8_16 := bm_ 31 65535
abbrev z8_17 := bm_ 31 131071
abbrev z8_18 := bm_ 31 268435455
abbrev z8_19 := bm_ 31 536870911
abbrev z8_20 := bm_ 31 1073741823
abbrev z8_21 := bm_ 31 2147483647
abbrev z8_22 := bm_ 31 262143
abbrev z8_23 := bm_ 31 524287
abbrev z8_24 := bm_ 31 1048575
abbrev z8_25 := bm_ 31 2097151
abbrev z8_26 := bm_ 31 4194303
abbrev z8_27 := bm_ 31 8388607
abbrev z8_28 := bm_ 31 16777215
abbrev z8_29 := bm_ 31 33554431
abbrev z8_30 := bm_ 31 67108863
abbrev z8_31 := bm_ 31 134217727
/-! ### laws_wkEnds: function 8 -/
def laws_wkEnds.f (k : Nat) (a0_0 : Int) (l0_1 : List (S47)) (l1 : List Int) (a2 : Int) (a3 : Int) : Option (Bool) := if (l1.length : Int) = 0 then (some (a2 == a3)) else ((impl_WalkOk.f k a0_0 l0_1 l1).bind fun t334 => (if t334 = true then (if 0 < (l1.length : Int) then (if 0 ≤ (rd l1 0) then (if (rd l1 0) < (l0_1.length : Int) then (if ((rd_T47 l0_1 (rd l1 0)).f0) = a2 then (if 0 ≤ (wrap64 ((l1.length : Int) - 1)) then (if (wrap64 ((l1.length : Int) - 1)) < (l1.length : Int) then (if 0 ≤ (rd l1 (wrap64 ((l1.length : Int) - 1))) then (if (rd l1 (wrap64 ((l1.length : Int) - 1))) < (l0_1.length : Int) then (some (((rd_T47 l0_1 (rd l1 (wrap64 ((l1.length : Int) - 1)))).f1) == a3)) else (none)) else (none)) else (none)) else (none)) else (some false)) else (none)) else (none)) else (none)) else (some false)))
theorem laws_wkEnds.mono : ∀ a0 a1 a2 a3 a4 k, LeO (laws_wkEnds.f k a0 a1 a2 a3 a4) (laws_wkEnds.f (k + 1) a0 a1 a2 a3 a4) := by
  intro a0 a1 a2 a3 a4 k
  unfold laws_wkEnds.f
  repeat' first | (with_reducible first | exact impl_WalkOk.mono _ _ _ _ | exact LeO.refl _ | exact LeO.none _ | refine LeO.ite ?_ ?_ | refine LeO.bind ?_ (fun _ => ?_)) | exact impl_WalkOk.mono _ _ _ _ | exact LeO.none _ | refine LeO.ite ?_ ?_ | refine LeO.bind ?_ (fun _ => ?_)
def laws_wkEnds.T3 : Bool × List (List Nat × List Nat) := (true, [([], []), ([], []), ([0, 1], [0, 1]), ([2, 2], [2]), ([3], [3]), ([4, 3], [3, 4]), ([3], [3]), ([6, 3], [3, 6]), ([7, 3], [3, 7]), ([5, 8, 3], [3, 5, 8]), ([9, 3], [3, 9]), ([10, 3], [3, 10]), ([3], [3]), ([11, 12, 3], [3, 11, 12]), ([3, 13], [3, 13]), ([14, 3], [14]), ([15], [15]), ([16, 15], [15, 16]), ([15], [15]), ([15], [15]), ([19, 15], [15, 19]), ([20, 15], [15, 20]), ([18, 21, 15], [15, 18, 21]), ([22, 15], [15, 22]), ([17, 23, 15], [15, 17, 23]), ([24, 15], [15, 24]), ([25, 15], [15, 25]), ([15], [15]), ([26, 27, 15], [15, 26, 27]), ([15, 28], [15, 28]), ([29, 15, 0, 1, 2, 3, 4, 5, 6, 7, 8, 9, 10, 11, 12, 13, 14, 15, 16, 17, 18, 19, 20, 21, 22, 23, 24, 25, 26, 27, 28, 29], [29])])
def laws_wkEnds.B3 : List Nat := [0, 0, 3, 7, 15, 31, 15, 79, 207, 511, 1023, 2047, 15, 8191, 16383, 32767, 65535, 131071, 65535, 65535, 589823, 1638399, 3997695, 8191999, 16777215, 33554431, 67108863, 65535, 268435455, 536870911, 1073741823]
theorem laws_wkEnds.tab3 : rtab .any (opsOf Try.f8 3) = laws_wkEnds.T3 := by kernel_rfl
theorem laws_wkEnds.bits3 : waitsOk laws_wkEnds.T3.2 laws_wkEnds.B3 = true := by kernel_rfl
set_option maxHeartbeats 200000000 in
set_option maxRecDepth 100000 in
theorem laws_wkEnds.calls (k : Nat) (a0_0 : Int) (A0_1 : Option Addr) (c0_1 : Nat) (l0_1 : List (S47)) (A1 : Option Addr) (c1 : Nat) (l1 : List Int) (a2 : Int) (a3 : Int) (r : Bool) (w : World) (hr0_1 : Kd.C k47 w A0_1 l0_1.length l0_1) (hc0_1 : l0_1.length ≤ c0_1) (hr1 : Kd.C (Kd.int .i64) w A1 l1.length l1) (hc1 : l1.length ≤ c1) (h : laws_wkEnds.f k a0_0 l0_1 l1 a2 a3 = some r) :
    Calls Try.prog 8 #[.agg #[.int .i64 a0_0, .slice A0_1 l0_1.length c0_1], .slice A1 l1.length c1, .int .i64 a2, .int .i64 a3] w fun e w' => e = .returned (.bool r) ∧ Below w.heap.size w w' := by
  have hu25 := Try.underlying25
  have HR0_1 := Aside0.mk hr0_1
  have HC0_1 := Aside0.mk hc0_1
  clear hr0_1 hc0_1
  have HR1 := Aside0.mk hr1
  have HC1 := Aside0.mk hc1
  clear hr1 hc1
  have HB := Aside0.mk (Below.refl w.heap.size w)
  have H : (if (l1.length : Int) = 0 then (some (a2 == a3)) else ((impl_WalkOk.f k a0_0 l0_1 l1).bind fun t334 => (if t334 = true then (if 0 < (l1.length : Int) then (if 0 ≤ (rd l1 0) then (if (rd l1 0) < (l0_1.length : Int) then (if ((rd_T47 l0_1 (rd l1 0)).f0) = a2 then (if 0 ≤ (wrap64 ((l1.length : Int) - 1)) then (if (wrap64 ((l1.length : Int) - 1)) < (l1.length : Int) then (if 0 ≤ (rd l1 (wrap64 ((l1.length : Int) - 1))) then (if (rd l1 (wrap64 ((l1.length : Int) - 1))) < (l0_1.length : Int) then (some (((rd_T47 l0_1 (rd l1 (wrap64 ((l1.length : Int) - 1)))).f1) == a3)) else (none)) else (none)) else (none)) else (none)) else (some false)) else (none)) else (none)) else (none)) else (some false)))) = some r := h
  clear h
  by_cases c5 : (l1.length : Int) = 0
  ·rw [if_pos c5] at H
   have c5b0 : ((l1.length : Int) == 0) = true := beq_iff_eq.mpr c5
   have c5b1 : ((l1.length : Int) != 0) = false := bne_eq_false_iff_eq.mpr c5
   clear c5
   obtain rfl := Option.some.inj H
   go_enter Try.func8, Try.ntmps8
   go_wp2_with (first | ((with_reducible refine gate_dst (N := 4) rfl ?_); (try (refine gate_guard (by rfl) ?_; dsimp only)); refine bx_ 4 #[.int .i64 a0_0, .slice A0_1 l0_1.length c0_1] 25 ?_; intro gb333 hg w6 hbox hb; have BK333 := Aside0.mk (hbox); have GW333 := Aside0.mk (zs_ hg (ne_ HB.out)); have GE333 := Aside0.mk (zs_ hg (ne_ HB.out)); replace HB := kB_ HB hb; clear hb hbox hg))
   go_ret
   exact ⟨nw_, ne_ HB.out⟩
  rw [if_neg c5] at H
  have c5b0 : ((l1.length : Int) == 0) = false := beq_eq_false_iff_ne.mpr c5
  have c5b1 : ((l1.length : Int) != 0) = true := bne_iff_ne.mpr c5
  have c5b2 : ¬ (l1 = []) := fun h_ => c5 (by rw [h_]; rfl)
  replace H := Option.bind_eq_some_iff.mp H
  obtain ⟨t334, A70, H⟩ := H
  try dsimp only at H
  have A7 := Aside0.mk A70
  clear A70
  by_cases c8 : t334 = true
  rotate_left
  ·replace c8 := Bool.eq_false_iff.mpr c8
   subst c8
   have H1 : (some false) = some r := by rw [if_neg (show ¬ (false = true) by decide)] at H; exact H
   clear H
   have H := H1
   clear H1
   obtain rfl := Option.some.inj H
   go_enter Try.func8, Try.ntmps8
   try go_wp2_with (first | ((with_reducible refine gate_dst (N := 4) rfl ?_); (try (refine gate_guard (by rfl) ?_; dsimp only)); refine bx_ 4 #[.int .i64 a0_0, .slice A0_1 l0_1.length c0_1] 25 ?_; intro gb333 hg w24 hbox hb; have BK333 := Aside0.mk (hbox); have GW333 := Aside0.mk (zs_ hg (ne_ HB.out)); have GE333 := Aside0.mk (zs_ hg (ne_ HB.out)); replace HB := kB_ HB hb; clear hb hbox hg))
   replace BK333 := Aside0.mk (blk_drew BK333.out)
   replace HB := Aside0.mk (below_drew1 HB.out)
   refine start_ (n := 31) (S := fun w' => w'.cell? ⟨gb333, 0, none⟩ = some (.int .i64 a0_0) ∧ w'.cell? ⟨gb333, 1, none⟩ = some (.slice A0_1 l0_1.length c0_1)) (ds := []) z8_0 (by kernel_rfl) rfl rfl ⟨ct_ BK333.out 0, ct_ BK333.out 1⟩ (fun hHeld => ?_); refine with_tabW laws_wkEnds.tab3 laws_wkEnds.bits3 (fun HT_ HW_ => ?_)
   generalize w24.drew = w25 at BK333 HB hHeld ⊢
   refine pu_ 1 16 z8_1 HT_.out ?_
   refine tk_ 0 15 z8_2 HT_.out HW_.out hHeld ?_
   refine one_ (i := 2) (N := some 17) z8_3 rfl rfl (one_of HT_.out (by kernel_rfl)) (by decide) (fun K hK => ?_)
   refine go_ Try.func20 #[.agg #[.int .i64 a0_0, .slice A0_1 l0_1.length c0_1], .slice A1 l1.length c1] ?_
   with_reducible refine (impl_WalkOk.calls k a0_0 _ _ l0_1 _ _ l1 false _ ?side1 ?side2 ?side3 ?side4 A7.out).mono ?_
   (case side1 => exact nc_ (Kd.C_below HR0_1.out HB.out))
   (case side2 => exact HC0_1.out)
   (case side3 => exact nc_ (Kd.C_below HR1.out HB.out))
   (case side4 => exact HC1.out)
   rintro e w26 ⟨rfl, hb⟩
   refine ⟨_, rfl, ?_⟩
   replace BK333 := kb_ BK333 hb
   replace HB := kB_ HB hb
   (try clear hb)
   (try clear hb2)
   (try clear hk)
   (try clear hi)
   refine hK.out _ _ ⟨ct_ BK333.out 0, ct_ BK333.out 1⟩ (fun hHeld => ?_)
   clear hK K
   refine nm1_ (some 17) ?_
   refine pu_ 3 18 z8_4 HT_.out ?_
   refine un_ 4 19 z8_5 HT_.out ?_
   refine un_ 5 20 (bm_ 31 63) HT_.out ?_
   refine un_ 6 21 (bm_ 31 127) HT_.out ?_
   refine un_ 7 22 (bm_ 31 255) HT_.out ?_
   refine un_ 8 23 (bm_ 31 511) HT_.out ?_
   refine un_ 9 24 (bm_ 31 1023) HT_.out ?_
   refine un_ 10 25 (bm_ 31 2047) HT_.out ?_
   refine un_ 11 26 (bm_ 31 4095) HT_.out ?_
   refine un_ 12 27 z8_13 HT_.out ?_
   refine un_ 13 28 z8_14 HT_.out ?_
   refine pu_ 14 29 z8_15 HT_.out ?_
   refine pu_ 15 30 z8_16 HT_.out ?_
   refine un_ 16 31 z8_17 HT_.out ?_
   refine un_ 17 32 z8_22 HT_.out ?_
   refine un_ 18 33 z8_23 HT_.out ?_
   refine un_ 19 34 z8_24 HT_.out ?_
   refine un_ 20 35 z8_25 HT_.out ?_
   refine un_ 21 36 z8_26 HT_.out ?_
   refine un_ 22 37 z8_27 HT_.out ?_
   refine un_ 23 38 z8_28 HT_.out ?_
   refine un_ 24 39 z8_29 HT_.out ?_
   refine un_ 25 40 z8_30 HT_.out ?_
   refine un_ 26 41 z8_31 HT_.out ?_
   refine un_ 27 42 z8_18 HT_.out ?_
   refine un_ 28 43 z8_19 HT_.out ?_
   refine pu_ 29 44 z8_20 HT_.out ?_
   refine pu_ 30 8 z8_21 HT_.out ?_
   refine done_ (done_of HT_.out (by kernel_rfl)) ?_
   try go_wp2
   go_ret
   exact ⟨nw_, ne_ HB.out⟩

  subst c8
  rw [if_pos rfl] at H
  by_cases c9 : 0 < (l1.length : Int)
  rotate_left
  ·rw [if_neg c9] at H
   exact absurd H (by simp)
  rw [if_pos c9] at H
  have c9b0 : decide (0 < (l1.length : Int)) = true := decide_eq_true c9
  have c9b1 : decide (0 < l1.length) = true := decide_eq_true (by omega)
  clear c9
  by_cases c10 : 0 ≤ (rd l1 0)
  rotate_left
  ·rw [if_neg c10] at H
   exact absurd H (by simp)
  rw [if_pos c10] at H
  have c10b0 : decide (0 ≤ (rd l1 0)) = true := decide_eq_true c10
  clear c10
  by_cases c11 : (rd l1 0) < (l0_1.length : Int)
  rotate_left
  ·rw [if_neg c11] at H
   exact absurd H (by simp)
  rw [if_pos c11] at H
  have c11b0 : decide ((rd l1 0) < (l0_1.length : Int)) = true := decide_eq_true c11
  clear c11
  by_cases c12 : ((rd_T47 l0_1 (rd l1 0)).f0) = a2
  rotate_left
  ·rw [if_neg c12] at H
   have c12b0 : (((rd_T47 l0_1 (rd l1 0)).f0) == a2) = false := beq_eq_false_iff_ne.mpr c12
   have c12b1 : (((rd_T47 l0_1 (rd l1 0)).f0) != a2) = true := bne_iff_ne.mpr c12
   obtain rfl := Option.some.inj H
   go_enter Try.func8, Try.ntmps8
   try go_wp2_with (first | ((with_reducible refine gate_dst (N := 4) rfl ?_); (try (refine gate_guard (by rfl) ?_; dsimp only)); refine bx_ 4 #[.int .i64 a0_0, .slice A0_1 l0_1.length c0_1] 25 ?_; intro gb333 hg w21 hbox hb; have BK333 := Aside0.mk (hbox); have GW333 := Aside0.mk (zs_ hg (ne_ HB.out)); have GE333 := Aside0.mk (zs_ hg (ne_ HB.out)); replace HB := kB_ HB hb; clear hb hbox hg))
   replace BK333 := Aside0.mk (blk_drew BK333.out)
   replace HB := Aside0.mk (below_drew1 HB.out)
   have p335 : 0 ≤ (0 : Int) := (by omega)
   have q335 : 0 < (l1.length : Int) := of_decide_eq_true nx_
   obtain ⟨ad335, e335, hx335_0⟩ := Kd.at_int HR1.out 0 p335 q335
   have hw335_0 := hx335_0
   (try rw [show ((0 : Int)).toNat = 0 from rfl] at hw335_0)
   (try rw [show 0 * 1 = 0 from rfl] at hw335_0)
   (try rw [Addr.add_zero'] at hw335_0)
   cases e335
   have qi335 : (0 < l1.length) = True := eq_true (by omega)
   (try rw [show ((0 : Int)).toNat = 0 from rfl] at hx335_0)
   (try rw [Addr.add_zero'] at hx335_0)
   replace hx335_0 := hb_ HB.out hx335_0
   replace p335 := eq_true p335
   replace q335 := eq_true q335
   have p336 : 0 ≤ ((rd l1 0) : Int) := of_decide_eq_true nx_
   have q336 : (rd l1 0) < (l0_1.length : Int) := of_decide_eq_true nx_
   obtain ⟨ad336, e336, hx336_0, hx336_1, hx336_2, hx336_3, hx336_4⟩ := at_T47 HR0_1.out (rd l1 0) p336 q336
   have hw336_4 := hx336_4
   have hw336_3 := hx336_3
   have hw336_2 := hx336_2
   have hw336_1 := hx336_1
   have hw336_0 := hx336_0
   cases e336
   replace hx336_0 := hb_ HB.out hx336_0
   replace hx336_1 := hb_ HB.out hx336_1
   replace hx336_2 := hb_ HB.out hx336_2
   replace hx336_3 := hb_ HB.out hx336_3
   replace hx336_4 := hb_ HB.out hx336_4
   replace p336 := eq_true p336
   replace q336 := eq_true q336
   refine start_ (n := 31) (S := fun w' => w'.cell? ⟨gb333, 0, none⟩ = some (.int .i64 a0_0) ∧ w'.cell? ⟨gb333, 1, none⟩ = some (.slice (some ad336) l0_1.length c0_1) ∧ w'.cell? ad335 = some (.int .i64 (rd l1 0)) ∧ w'.cell? (ad336.add (((rd l1 0)).toNat * 5)) = some (.int .i64 ((rd_T47 l0_1 (rd l1 0)).f0)) ∧ w'.cell? ⟨(ad336.add (((rd l1 0)).toNat * 5)).block, (ad336.add (((rd l1 0)).toNat * 5)).off + 1, none⟩ = some (.int .i64 ((rd_T47 l0_1 (rd l1 0)).f1)) ∧ w'.cell? ⟨(ad336.add (((rd l1 0)).toNat * 5)).block, (ad336.add (((rd l1 0)).toNat * 5)).off + 2, none⟩ = some (.int .i64 ((rd_T47 l0_1 (rd l1 0)).f2)) ∧ w'.cell? ⟨(ad336.add (((rd l1 0)).toNat * 5)).block, (ad336.add (((rd l1 0)).toNat * 5)).off + 3, none⟩ = some (.int .i64 ((rd_T47 l0_1 (rd l1 0)).f3)) ∧ w'.cell? ⟨(ad336.add (((rd l1 0)).toNat * 5)).block, (ad336.add (((rd l1 0)).toNat * 5)).off + 4, none⟩ = some (.int .i64 ((rd_T47 l0_1 (rd l1 0)).f4))) (ds := []) z8_0 (by kernel_rfl) rfl rfl ⟨ct_ BK333.out 0, ct_ BK333.out 1, ((HB.out.cell (World.block_lt_of_cell? w _ hw335_0)).trans hw335_0), ((HB.out.cell (World.block_lt_of_cell? w _ hw336_0)).trans hw336_0), ((HB.out.cell (World.block_lt_of_cell? w _ hw336_1)).trans hw336_1), ((HB.out.cell (World.block_lt_of_cell? w _ hw336_2)).trans hw336_2), ((HB.out.cell (World.block_lt_of_cell? w _ hw336_3)).trans hw336_3), ((HB.out.cell (World.block_lt_of_cell? w _ hw336_4)).trans hw336_4)⟩ (fun hHeld => ?_); refine with_tabW laws_wkEnds.tab3 laws_wkEnds.bits3 (fun HT_ HW_ => ?_)
   generalize w21.drew = w22 at BK333 HB hx335_0 hx336_0 hx336_1 hx336_2 hx336_3 hx336_4 hHeld ⊢
   refine pu_ 1 16 z8_1 HT_.out ?_
   refine tk_ 0 15 z8_2 HT_.out HW_.out hHeld ?_
   refine one_ (i := 2) (N := some 17) z8_3 rfl rfl (one_of HT_.out (by kernel_rfl)) (by decide) (fun K hK => ?_)
   refine go_ Try.func20 #[.agg #[.int .i64 a0_0, .slice (some ad336) l0_1.length c0_1], .slice (some ad335) l1.length c1] ?_
   with_reducible refine (impl_WalkOk.calls k a0_0 _ _ l0_1 _ _ l1 true _ ?side1 ?side2 ?side3 ?side4 A7.out).mono ?_
   (case side1 => exact nc_ (Kd.C_below HR0_1.out HB.out))
   (case side2 => exact HC0_1.out)
   (case side3 => exact nc_ (Kd.C_below HR1.out HB.out))
   (case side4 => exact HC1.out)
   rintro e w23 ⟨rfl, hb⟩
   refine ⟨_, rfl, ?_⟩
   replace BK333 := kb_ BK333 hb
   replace HB := kB_ HB hb
   (try clear hb)
   (try clear hb2)
   (try clear hk)
   (try clear hi)
   refine hK.out _ _ ⟨ct_ BK333.out 0, ct_ BK333.out 1, ((HB.out.cell (World.block_lt_of_cell? w _ hw335_0)).trans hw335_0), ((HB.out.cell (World.block_lt_of_cell? w _ hw336_0)).trans hw336_0), ((HB.out.cell (World.block_lt_of_cell? w _ hw336_1)).trans hw336_1), ((HB.out.cell (World.block_lt_of_cell? w _ hw336_2)).trans hw336_2), ((HB.out.cell (World.block_lt_of_cell? w _ hw336_3)).trans hw336_3), ((HB.out.cell (World.block_lt_of_cell? w _ hw336_4)).trans hw336_4)⟩ (fun hHeld => ?_)
   clear hK K
   refine nm1_ (some 17) ?_
   refine pu_ 3 18 z8_4 HT_.out ?_
   refine pu_ 4 19 z8_5 HT_.out ?_
   refine pu_ 6 21 z8_6 HT_.out ?_
   refine pu_ 7 22 z8_7 HT_.out ?_
   refine pu_ 12 27 z8_8 HT_.out ?_
   refine tk_ 5 20 z8_9 HT_.out HW_.out hHeld ?_
   refine tk_ 8 23 z8_10 HT_.out HW_.out hHeld ?_
   refine pu_ 9 24 z8_11 HT_.out ?_
   refine pu_ 10 25 z8_12 HT_.out ?_
   refine tk_ 11 26 z8_13 HT_.out HW_.out hHeld ?_
   refine pu_ 13 28 z8_14 HT_.out ?_
   refine pu_ 14 29 z8_15 HT_.out ?_
   refine pu_ 15 30 z8_16 HT_.out ?_
   refine un_ 16 31 z8_17 HT_.out ?_
   refine un_ 17 32 z8_22 HT_.out ?_
   refine un_ 18 33 z8_23 HT_.out ?_
   refine un_ 19 34 z8_24 HT_.out ?_
   refine un_ 20 35 z8_25 HT_.out ?_
   refine un_ 21 36 z8_26 HT_.out ?_
   refine un_ 22 37 z8_27 HT_.out ?_
   refine un_ 23 38 z8_28 HT_.out ?_
   refine un_ 24 39 z8_29 HT_.out ?_
   refine un_ 25 40 z8_30 HT_.out ?_
   refine un_ 26 41 z8_31 HT_.out ?_
   refine un_ 27 42 z8_18 HT_.out ?_
   refine un_ 28 43 z8_19 HT_.out ?_
   refine pu_ 29 44 z8_20 HT_.out ?_
   refine pu_ 30 8 z8_21 HT_.out ?_
   refine done_ (done_of HT_.out (by kernel_rfl)) ?_
   try go_wp2
   go_ret
   exact ⟨nw_, ne_ HB.out⟩
  rw [if_pos c12] at H
  have c12b0 : (((rd_T47 l0_1 (rd l1 0)).f0) == a2) = true := beq_iff_eq.mpr c12
  have c12b1 : (((rd_T47 l0_1 (rd l1 0)).f0) != a2) = false := bne_eq_false_iff_eq.mpr c12
  clear c12
  obtain ⟨ji13, hji13⟩ : ∃ j_ : Int, (wrap64 ((l1.length : Int) - 1)) = j_ := ⟨_, rfl⟩
  replace H : (if 0 ≤ (ji13) then (if (ji13) < (l1.length : Int) then (if 0 ≤ (rd l1 (ji13)) then (if (rd l1 (ji13)) < (l0_1.length : Int) then (some (((rd_T47 l0_1 (rd l1 (ji13))).f1) == a3)) else (none)) else (none)) else (none)) else (none)) = some r := by first | (rw [hji13] at H; exact H) | (simp only [hji13] at H ⊢; exact H)
  (try rw [hji13] at A7)
  have hji13w : (IntKind.i64.wrap ((l1.length : Int) - 1)) = ji13 := (i64_w _).trans hji13
  by_cases c14 : 0 ≤ (ji13)
  rotate_left
  ·rw [if_neg c14] at H
   exact absurd H (by simp)
  rw [if_pos c14] at H
  have c14b0 : decide (0 ≤ (ji13)) = true := decide_eq_true c14
  clear c14
  by_cases c15 : (ji13) < (l1.length : Int)
  rotate_left
  ·rw [if_neg c15] at H
   exact absurd H (by simp)
  rw [if_pos c15] at H
  have c15b0 : decide ((ji13) < (l1.length : Int)) = true := decide_eq_true c15
  clear c15
  by_cases c16 : 0 ≤ (rd l1 (ji13))
  rotate_left
  ·rw [if_neg c16] at H
   exact absurd H (by simp)
  rw [if_pos c16] at H
  have c16b0 : decide (0 ≤ (rd l1 (ji13))) = true := decide_eq_true c16
  clear c16
  by_cases c17 : (rd l1 (ji13)) < (l0_1.length : Int)
  rotate_left
  ·rw [if_neg c17] at H
   exact absurd H (by simp)
  rw [if_pos c17] at H
  have c17b0 : decide ((rd l1 (ji13)) < (l0_1.length : Int)) = true := decide_eq_true c17
  clear c17
  obtain rfl := Option.some.inj H
  go_enter Try.func8, Try.ntmps8
  try go_wp2_with (first | ((with_reducible refine gate_dst (N := 4) rfl ?_); (try (refine gate_guard (by rfl) ?_; dsimp only)); refine bx_ 4 #[.int .i64 a0_0, .slice A0_1 l0_1.length c0_1] 25 ?_; intro gb333 hg w18 hbox hb; have BK333 := Aside0.mk (hbox); have GW333 := Aside0.mk (zs_ hg (ne_ HB.out)); have GE333 := Aside0.mk (zs_ hg (ne_ HB.out)); replace HB := kB_ HB hb; clear hb hbox hg))
  replace BK333 := Aside0.mk (blk_drew BK333.out)
  replace HB := Aside0.mk (below_drew1 HB.out)
  have p335 : 0 ≤ (0 : Int) := (by omega)
  have q335 : 0 < (l1.length : Int) := of_decide_eq_true nx_
  obtain ⟨ad335, e335, hx335_0⟩ := Kd.at_int HR1.out 0 p335 q335
  have hw335_0 := hx335_0
  (try rw [show ((0 : Int)).toNat = 0 from rfl] at hw335_0)
  (try rw [show 0 * 1 = 0 from rfl] at hw335_0)
  (try rw [Addr.add_zero'] at hw335_0)
  cases e335
  have qi335 : (0 < l1.length) = True := eq_true (by omega)
  (try rw [show ((0 : Int)).toNat = 0 from rfl] at hx335_0)
  (try rw [Addr.add_zero'] at hx335_0)
  replace hx335_0 := hb_ HB.out hx335_0
  replace p335 := eq_true p335
  replace q335 := eq_true q335
  have p336 : 0 ≤ ((rd l1 0) : Int) := of_decide_eq_true nx_
  have q336 : (rd l1 0) < (l0_1.length : Int) := of_decide_eq_true nx_
  obtain ⟨ad336, e336, hx336_0, hx336_1, hx336_2, hx336_3, hx336_4⟩ := at_T47 HR0_1.out (rd l1 0) p336 q336
  have hw336_4 := hx336_4
  have hw336_3 := hx336_3
  have hw336_2 := hx336_2
  have hw336_1 := hx336_1
  have hw336_0 := hx336_0
  cases e336
  replace hx336_0 := hb_ HB.out hx336_0
  replace hx336_1 := hb_ HB.out hx336_1
  replace hx336_2 := hb_ HB.out hx336_2
  replace hx336_3 := hb_ HB.out hx336_3
  replace hx336_4 := hb_ HB.out hx336_4
  replace p336 := eq_true p336
  replace q336 := eq_true q336
  have p337 : 0 ≤ ((ji13) : Int) := of_decide_eq_true nx_
  have q337 : (ji13) < (l1.length : Int) := of_decide_eq_true nx_
  obtain ⟨ad337, e337, hx337_0⟩ := Kd.at_int HR1.out (ji13) p337 q337
  have hw337_0 := hx337_0
  obtain rfl : ad335 = ad337 := (by injection e337)
  replace hx337_0 := hb_ HB.out hx337_0
  replace p337 := eq_true p337
  replace q337 := eq_true q337
  have p338 : 0 ≤ ((rd l1 (ji13)) : Int) := of_decide_eq_true nx_
  have q338 : (rd l1 (ji13)) < (l0_1.length : Int) := of_decide_eq_true nx_
  obtain ⟨ad338, e338, hx338_0, hx338_1, hx338_2, hx338_3, hx338_4⟩ := at_T47 HR0_1.out (rd l1 (ji13)) p338 q338
  have hw338_4 := hx338_4
  have hw338_3 := hx338_3
  have hw338_2 := hx338_2
  have hw338_1 := hx338_1
  have hw338_0 := hx338_0
  obtain rfl : ad336 = ad338 := (by injection e338)
  replace hx338_0 := hb_ HB.out hx338_0
  replace hx338_1 := hb_ HB.out hx338_1
  replace hx338_2 := hb_ HB.out hx338_2
  replace hx338_3 := hb_ HB.out hx338_3
  replace hx338_4 := hb_ HB.out hx338_4
  replace p338 := eq_true p338
  replace q338 := eq_true q338
  refine start_ (n := 31) (S := fun w' => w'.cell? ⟨gb333, 0, none⟩ = some (.int .i64 a0_0) ∧ w'.cell? ⟨gb333, 1, none⟩ = some (.slice (some ad336) l0_1.length c0_1) ∧ w'.cell? ad335 = some (.int .i64 (rd l1 0)) ∧ w'.cell? (ad336.add (((rd l1 0)).toNat * 5)) = some (.int .i64 ((rd_T47 l0_1 (rd l1 0)).f0)) ∧ w'.cell? ⟨(ad336.add (((rd l1 0)).toNat * 5)).block, (ad336.add (((rd l1 0)).toNat * 5)).off + 1, none⟩ = some (.int .i64 ((rd_T47 l0_1 (rd l1 0)).f1)) ∧ w'.cell? ⟨(ad336.add (((rd l1 0)).toNat * 5)).block, (ad336.add (((rd l1 0)).toNat * 5)).off + 2, none⟩ = some (.int .i64 ((rd_T47 l0_1 (rd l1 0)).f2)) ∧ w'.cell? ⟨(ad336.add (((rd l1 0)).toNat * 5)).block, (ad336.add (((rd l1 0)).toNat * 5)).off + 3, none⟩ = some (.int .i64 ((rd_T47 l0_1 (rd l1 0)).f3)) ∧ w'.cell? ⟨(ad336.add (((rd l1 0)).toNat * 5)).block, (ad336.add (((rd l1 0)).toNat * 5)).off + 4, none⟩ = some (.int .i64 ((rd_T47 l0_1 (rd l1 0)).f4)) ∧ w'.cell? (ad335.add ((ji13)).toNat) = some (.int .i64 (rd l1 (ji13))) ∧ w'.cell? (ad336.add (((rd l1 (ji13))).toNat * 5)) = some (.int .i64 ((rd_T47 l0_1 (rd l1 (ji13))).f0)) ∧ w'.cell? ⟨(ad336.add (((rd l1 (ji13))).toNat * 5)).block, (ad336.add (((rd l1 (ji13))).toNat * 5)).off + 1, none⟩ = some (.int .i64 ((rd_T47 l0_1 (rd l1 (ji13))).f1)) ∧ w'.cell? ⟨(ad336.add (((rd l1 (ji13))).toNat * 5)).block, (ad336.add (((rd l1 (ji13))).toNat * 5)).off + 2, none⟩ = some (.int .i64 ((rd_T47 l0_1 (rd l1 (ji13))).f2)) ∧ w'.cell? ⟨(ad336.add (((rd l1 (ji13))).toNat * 5)).block, (ad336.add (((rd l1 (ji13))).toNat * 5)).off + 3, none⟩ = some (.int .i64 ((rd_T47 l0_1 (rd l1 (ji13))).f3)) ∧ w'.cell? ⟨(ad336.add (((rd l1 (ji13))).toNat * 5)).block, (ad336.add (((rd l1 (ji13))).toNat * 5)).off + 4, none⟩ = some (.int .i64 ((rd_T47 l0_1 (rd l1 (ji13))).f4))) (ds := []) z8_0 (by kernel_rfl) rfl rfl ⟨ct_ BK333.out 0, ct_ BK333.out 1, ((HB.out.cell (World.block_lt_of_cell? w _ hw335_0)).trans hw335_0), ((HB.out.cell (World.block_lt_of_cell? w _ hw336_0)).trans hw336_0), ((HB.out.cell (World.block_lt_of_cell? w _ hw336_1)).trans hw336_1), ((HB.out.cell (World.block_lt_of_cell? w _ hw336_2)).trans hw336_2), ((HB.out.cell (World.block_lt_of_cell? w _ hw336_3)).trans hw336_3), ((HB.out.cell (World.block_lt_of_cell? w _ hw336_4)).trans hw336_4), ((HB.out.cell (World.block_lt_of_cell? w _ hw337_0)).trans hw337_0), ((HB.out.cell (World.block_lt_of_cell? w _ hw338_0)).trans hw338_0), ((HB.out.cell (World.block_lt_of_cell? w _ hw338_1)).trans hw338_1), ((HB.out.cell (World.block_lt_of_cell? w _ hw338_2)).trans hw338_2), ((HB.out.cell (World.block_lt_of_cell? w _ hw338_3)).trans hw338_3), ((HB.out.cell (World.block_lt_of_cell? w _ hw338_4)).trans hw338_4)⟩ (fun hHeld => ?_); refine with_tabW laws_wkEnds.tab3 laws_wkEnds.bits3 (fun HT_ HW_ => ?_)
  generalize w18.drew = w19 at BK333 HB hx335_0 hx336_0 hx336_1 hx336_2 hx336_3 hx336_4 hx337_0 hx338_0 hx338_1 hx338_2 hx338_3 hx338_4 hHeld ⊢
  refine pu_ 1 16 z8_1 HT_.out ?_
  refine tk_ 0 15 z8_2 HT_.out HW_.out hHeld ?_
  refine one_ (i := 2) (N := some 17) z8_3 rfl rfl (one_of HT_.out (by kernel_rfl)) (by decide) (fun K hK => ?_)
  refine go_ Try.func20 #[.agg #[.int .i64 a0_0, .slice (some ad336) l0_1.length c0_1], .slice (some ad335) l1.length c1] ?_
  with_reducible refine (impl_WalkOk.calls k a0_0 _ _ l0_1 _ _ l1 true _ ?side1 ?side2 ?side3 ?side4 A7.out).mono ?_
  (case side1 => exact nc_ (Kd.C_below HR0_1.out HB.out))
  (case side2 => exact HC0_1.out)
  (case side3 => exact nc_ (Kd.C_below HR1.out HB.out))
  (case side4 => exact HC1.out)
  rintro e w20 ⟨rfl, hb⟩
  refine ⟨_, rfl, ?_⟩
  replace BK333 := kb_ BK333 hb
  replace HB := kB_ HB hb
  (try clear hb)
  (try clear hb2)
  (try clear hk)
  (try clear hi)
  refine hK.out _ _ ⟨ct_ BK333.out 0, ct_ BK333.out 1, ((HB.out.cell (World.block_lt_of_cell? w _ hw335_0)).trans hw335_0), ((HB.out.cell (World.block_lt_of_cell? w _ hw336_0)).trans hw336_0), ((HB.out.cell (World.block_lt_of_cell? w _ hw336_1)).trans hw336_1), ((HB.out.cell (World.block_lt_of_cell? w _ hw336_2)).trans hw336_2), ((HB.out.cell (World.block_lt_of_cell? w _ hw336_3)).trans hw336_3), ((HB.out.cell (World.block_lt_of_cell? w _ hw336_4)).trans hw336_4), ((HB.out.cell (World.block_lt_of_cell? w _ hw337_0)).trans hw337_0), ((HB.out.cell (World.block_lt_of_cell? w _ hw338_0)).trans hw338_0), ((HB.out.cell (World.block_lt_of_cell? w _ hw338_1)).trans hw338_1), ((HB.out.cell (World.block_lt_of_cell? w _ hw338_2)).trans hw338_2), ((HB.out.cell (World.block_lt_of_cell? w _ hw338_3)).trans hw338_3), ((HB.out.cell (World.block_lt_of_cell? w _ hw338_4)).trans hw338_4)⟩ (fun hHeld => ?_)
  clear hK K
  refine nm1_ (some 17) ?_
  refine pu_ 3 18 z8_4 HT_.out ?_
  refine pu_ 4 19 z8_5 HT_.out ?_
  refine pu_ 6 21 z8_6 HT_.out ?_
  refine pu_ 7 22 z8_7 HT_.out ?_
  refine pu_ 12 27 z8_8 HT_.out ?_
  refine tk_ 5 20 z8_9 HT_.out HW_.out hHeld ?_
  refine tk_ 8 23 z8_10 HT_.out HW_.out hHeld ?_
  refine pu_ 9 24 z8_11 HT_.out ?_
  refine pu_ 10 25 z8_12 HT_.out ?_
  refine tk_ 11 26 z8_13 HT_.out HW_.out hHeld ?_
  refine pu_ 13 28 z8_14 HT_.out ?_
  refine pu_ 14 29 z8_15 HT_.out ?_
  refine pu_ 15 30 z8_16 HT_.out ?_
  refine pu_ 16 31 z8_17 HT_.out ?_
  refine pu_ 18 33 (bm_ 31 393215) HT_.out ?_
  refine pu_ 19 34 (bm_ 31 917503) HT_.out ?_
  refine pu_ 20 35 (bm_ 31 1966079) HT_.out ?_
  refine pu_ 21 36 (bm_ 31 4063231) HT_.out ?_
  refine pu_ 22 37 (bm_ 31 8257535) HT_.out ?_
  refine pu_ 27 42 (bm_ 31 142475263) HT_.out ?_
  refine tk_ 17 32 (bm_ 31 142606335) HT_.out HW_.out hHeld ?_
  refine tk_ 23 38 (bm_ 31 150994943) HT_.out HW_.out hHeld ?_
  refine pu_ 24 39 (bm_ 31 167772159) HT_.out ?_
  refine pu_ 25 40 (bm_ 31 201326591) HT_.out ?_
  refine tk_ 26 41 z8_18 HT_.out HW_.out hHeld ?_
  refine pu_ 28 43 z8_19 HT_.out ?_
  refine pu_ 29 44 z8_20 HT_.out ?_
  refine pu_ 30 8 z8_21 HT_.out ?_
  refine done_ (done_of HT_.out (by kernel_rfl)) ?_
  try go_wp2
  go_ret
  exact ⟨by first | rfl | (simp [errW_none, errW_some] <;> rfl) | (simp only [← hji13]; first | rfl | (simp [errW_none, errW_some] <;> rfl)) | (simp [*, errW_none, errW_some] <;> rfl), ne_ HB.out⟩
end Go.Proofs.Ytgnnimhhkbbfiaa.Print
