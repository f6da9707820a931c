-- Made by this session's own program (wip/patch_print.py, over the kit's print). Lean checks it.
import Derived.Test.YtpjmkghmjpbldaaPrint0
import Derived.Test.YtpjmkghmjpbldaaPrintF60
import Derived.Test.YtpjmkghmjpbldaaPrintF83
import Derived.Test.YtpjmkghmjpbldaaPrintF87
namespace Go.Proofs.Ytpjmkghmjpbldaa.Print
open Go.RowKit Go.Proofs.YtpjmkghmjpbldaaW.PrintWords Go.Proofs.YtpjmkghmjpbldaaW.PrintLast Go.Proofs.YtpjmkghmjpbldaaW.PrintMore Go.Proofs.YtpjmkghmjpbldaaX
attribute [local go_sem] max2_int min2_int max_two min_two max_three min_three max_four min_four   -- for this text's walks alone
set_option linter.unusedVariables false
set_option linter.unusedSimpArgs false

/-! ### spec_WalkNodes: function 51 -/
def spec_WalkNodes.f (k : Nat) (a0_0 : Int) (l0_1 : List (S37)) (l1 : List Int) : Option (List Int) := (spec_l1Ok.f k a0_0 l0_1).bind fun t808 => (if t808 = true then ((spec_l2Ok.f k a0_0 l0_1 l1).bind fun t809 => (if t809 = true then (if (l1.length : Int) = 0 then (some ([] : List Int)) else (if 0 < (l1.length : Int) then (if 0 ≤ (rd l1 0) then (if (rd l1 0) < (l0_1.length : Int) then ((spec_l2Nodes.f k a0_0 l0_1 l1 ((rd_T37 l0_1 (rd l1 0)).f0)).bind fun t812 => (some t812)) else (none)) else (none)) else (none))) else (some ([] : List Int)))) else (some ([] : List Int)))
theorem spec_WalkNodes.mono : ∀ a0 a1 a2 k, LeO (spec_WalkNodes.f k a0 a1 a2) (spec_WalkNodes.f (k + 1) a0 a1 a2) := by
  intro a0 a1 a2 k
  unfold spec_WalkNodes.f
  repeat' first | (with_reducible first | exact spec_l1Ok.mono _ _ _ | exact spec_l2Nodes.mono _ _ _ _ _ | exact spec_l2Ok.mono _ _ _ _ | exact LeO.refl _ | exact LeO.none _ | refine LeO.ite ?_ ?_ | refine LeO.bind ?_ (fun _ => ?_)) | exact spec_l1Ok.mono _ _ _ | exact spec_l2Nodes.mono _ _ _ _ _ | exact spec_l2Ok.mono _ _ _ _ | exact LeO.none _ | refine LeO.ite ?_ ?_ | refine LeO.bind ?_ (fun _ => ?_)
def spec_WalkNodes.T3 : Bool × List (List Nat × List Nat) := (true, [([], []), ([], []), ([], []), ([2], [2]), ([], []), ([4], [4]), ([5], [5]), ([3, 6], [3, 6]), ([7], [7]), ([8], [8]), ([0, 1, 9], [0, 1, 9]), ([10, 10, 0, 1, 2, 3, 4, 5, 6, 7, 8, 9, 10], [10])])
def spec_WalkNodes.B3 : List Nat := [0, 0, 0, 4, 0, 16, 48, 124, 252, 508, 1023, 2047]
theorem spec_WalkNodes.tab3 : rtab .any (opsOf Try.f51 3) = spec_WalkNodes.T3 := by kernel_rfl
theorem spec_WalkNodes.bits3 : waitsOk spec_WalkNodes.T3.2 spec_WalkNodes.B3 = true := by kernel_rfl
set_option maxHeartbeats 200000000 in
set_option maxRecDepth 100000 in
theorem spec_WalkNodes.calls (k : Nat) (a0_0 : Int) (A0_1 : Option Addr) (c0_1 : Nat) (l0_1 : List (S37)) (A1 : Option Addr) (c1 : Nat) (l1 : List Int) (r : List Int) (w : World) (hr0_1 : Kd.C k37 w A0_1 l0_1.length l0_1) (hc0_1 : l0_1.length ≤ c0_1) (hr1 : Kd.C (Kd.int .i64) w A1 l1.length l1) (hc1 : l1.length ≤ c1) (h : spec_WalkNodes.f k a0_0 l0_1 l1 = some r) :
    Calls Try.prog 51 #[.agg #[.int .i64 a0_0, .slice A0_1 l0_1.length c0_1], .slice A1 l1.length c1] w fun e w' => ∃ v0_ : Value, e = .returned (v0_) ∧ Kd.R (Kd.int .i64) 3 w' w.heap.size (fun _ => True) v0_ r ∧ Below w.heap.size w w' := by
  have hu29 := Try.underlying29
  have HR0_1 := Aside0.mk hr0_1
  have HC0_1 := Aside0.mk hc0_1
  clear hr0_1 hc0_1
  have HR1 := Aside0.mk hr1
  have HC1 := Aside0.mk hc1
  clear hr1 hc1
  have HB := Aside0.mk (Below.refl w.heap.size w)
  have H : ((spec_l1Ok.f k a0_0 l0_1).bind fun t808 => (if t808 = true then ((spec_l2Ok.f k a0_0 l0_1 l1).bind fun t809 => (if t809 = true then (if (l1.length : Int) = 0 then (some ([] : List Int)) else (if 0 < (l1.length : Int) then (if 0 ≤ (rd l1 0) then (if (rd l1 0) < (l0_1.length : Int) then ((spec_l2Nodes.f k a0_0 l0_1 l1 ((rd_T37 l0_1 (rd l1 0)).f0)).bind fun t812 => (some t812)) else (none)) else (none)) else (none))) else (some ([] : List Int)))) else (some ([] : List Int)))) = some r := h
  clear h
  replace H := Option.bind_eq_some_iff.mp H
  obtain ⟨t808, A30, H⟩ := H
  try dsimp only at H
  have A3 := Aside0.mk A30
  clear A30
  by_cases c4 : t808 = true
  rotate_left
  ·replace c4 := Bool.eq_false_iff.mpr c4
   subst c4
   have H1 : (some ([] : List Int)) = some r := by rw [if_neg (show ¬ (false = true) by decide)] at H; exact H
   clear H
   have H := H1
   clear H1
   obtain rfl := Option.some.inj H
   go_enter Try.func51, Try.ntmps51
   go_wp2_with (first | ((with_reducible refine gate_dst (N := 2) rfl ?_); (try (refine gate_guard (by rfl) ?_; dsimp only)); refine bx_ 2 #[.int .i64 a0_0, .slice A0_1 l0_1.length c0_1] 29 ?_; intro gb807 hg w29 hbox hb; have BK807 := Aside0.mk (hbox); have GW807 := Aside0.mk (zs_ hg (ne_ HB.out)); have GE807 := Aside0.mk (zs_ hg (ne_ HB.out)); replace HB := kB_ HB hb; clear hb hbox hg; obtain ⟨hcz30_0, hcz30_1, hfz30_0, hfz30_1⟩ := cz2_ BK807.out) | ((with_reducible refine gate_callee (f := 60) rfl ?_); refine gl_ (some 6) Try.func60 #[.agg #[.int .i64 a0_0, .slice A0_1 l0_1.length c0_1]] ?_; (with_reducible refine (spec_l1Ok.calls k a0_0 _ _ l0_1 false _ ?side1 ?side2 A3.out).mono ?_); (case side1 => exact nc_ (Kd.C_below HR0_1.out HB.out)); (case side2 => exact HC0_1.out); rintro e w31 ⟨rfl, hb⟩; refine ⟨_, rfl, ?_⟩; replace BK807 := kb_ BK807 hb; replace HB := kB_ HB hb; (try clear hb); (try clear hb2); (try clear hk); (try clear hi)))
   go_ret
   exact ⟨_, nw_, by first | exact Kd.R_nil _ _ _ _ _ | exact Kd.N_nil _ _ _ _ _ | exact Kd.V_nil _ _ _ _ _ | exact Kd.Q_nil _ _ _ _ _ | exact Kd.S_nil _ _ _ _ _, ne_ HB.out⟩

  subst c4
  rw [if_pos rfl] at H
  replace H := Option.bind_eq_some_iff.mp H
  obtain ⟨t809, A50, H⟩ := H
  try dsimp only at H
  have A5 := Aside0.mk A50
  clear A50
  by_cases c6 : t809 = true
  rotate_left
  ·replace c6 := Bool.eq_false_iff.mpr c6
   subst c6
   have H1 : (some ([] : List Int)) = some r := by rw [if_neg (show ¬ (false = true) by decide)] at H; exact H
   clear H
   have H := H1
   clear H1
   obtain rfl := Option.some.inj H
   go_enter Try.func51, Try.ntmps51
   go_wp2_with (first | ((with_reducible refine gate_dst (N := 2) rfl ?_); (try (refine gate_guard (by rfl) ?_; dsimp only)); refine bx_ 2 #[.int .i64 a0_0, .slice A0_1 l0_1.length c0_1] 29 ?_; intro gb807 hg w24 hbox hb; have BK807 := Aside0.mk (hbox); have GW807 := Aside0.mk (zs_ hg (ne_ HB.out)); have GE807 := Aside0.mk (zs_ hg (ne_ HB.out)); replace HB := kB_ HB hb; clear hb hbox hg; obtain ⟨hcz25_0, hcz25_1, hfz25_0, hfz25_1⟩ := cz2_ BK807.out) | ((with_reducible refine gate_callee (f := 60) rfl ?_); refine gl_ (some 6) Try.func60 #[.agg #[.int .i64 a0_0, .slice A0_1 l0_1.length c0_1]] ?_; (with_reducible refine (spec_l1Ok.calls k a0_0 _ _ l0_1 true _ ?side1 ?side2 A3.out).mono ?_); (case side1 => exact nc_ (Kd.C_below HR0_1.out HB.out)); (case side2 => exact HC0_1.out); rintro e w26 ⟨rfl, hb⟩; refine ⟨_, rfl, ?_⟩; replace BK807 := kb_ BK807 hb; replace HB := kB_ HB hb; (try clear hb); (try clear hb2); (try clear hk); (try clear hi); obtain ⟨hcz27_0, hcz27_1, hfz27_0, hfz27_1⟩ := cz2_ BK807.out) | (go_at_call 83; (with_reducible refine (spec_l2Ok.calls k a0_0 _ _ l0_1 _ _ l1 false _ ?side1 ?side2 ?side3 ?side4 A5.out).mono ?_); (case side1 => exact nc_ (Kd.C_below HR0_1.out HB.out)); (case side2 => exact HC0_1.out); (case side3 => exact nc_ (Kd.C_below HR1.out HB.out)); (case side4 => exact HC1.out); rintro e w28 ⟨rfl, hb⟩; replace BK807 := kb_ BK807 hb; replace HB := kB_ HB hb; (try clear hb); (try clear hb2); (try clear hk); (try clear hi)))
   go_ret
   exact ⟨_, nw_, by first | exact Kd.R_nil _ _ _ _ _ | exact Kd.N_nil _ _ _ _ _ | exact Kd.V_nil _ _ _ _ _ | exact Kd.Q_nil _ _ _ _ _ | exact Kd.S_nil _ _ _ _ _, ne_ HB.out⟩
  subst c6
  rw [if_pos rfl] at H
  by_cases c7 : (l1.length : Int) = 0
  ·rw [if_pos c7] at H
   have c7b0 : ((l1.length : Int) == 0) = true := beq_iff_eq.mpr c7
   have c7b1 : ((l1.length : Int) != 0) = false := bne_eq_false_iff_eq.mpr c7
   clear c7
   obtain rfl := Option.some.inj H
   go_enter Try.func51, Try.ntmps51
   go_wp2_with (first | ((with_reducible refine gate_dst (N := 2) rfl ?_); (try (refine gate_guard (by rfl) ?_; dsimp only)); refine bx_ 2 #[.int .i64 a0_0, .slice A0_1 l0_1.length c0_1] 29 ?_; intro gb807 hg w8 hbox hb; have BK807 := Aside0.mk (hbox); have GW807 := Aside0.mk (zs_ hg (ne_ HB.out)); have GE807 := Aside0.mk (zs_ hg (ne_ HB.out)); replace HB := kB_ HB hb; clear hb hbox hg; obtain ⟨hcz9_0, hcz9_1, hfz9_0, hfz9_1⟩ := cz2_ BK807.out) | ((with_reducible refine gate_callee (f := 60) rfl ?_); refine gl_ (some 6) Try.func60 #[.agg #[.int .i64 a0_0, .slice A0_1 l0_1.length c0_1]] ?_; (with_reducible refine (spec_l1Ok.calls k a0_0 _ _ l0_1 true _ ?side1 ?side2 A3.out).mono ?_); (case side1 => exact nc_ (Kd.C_below HR0_1.out HB.out)); (case side2 => exact HC0_1.out); rintro e w10 ⟨rfl, hb⟩; refine ⟨_, rfl, ?_⟩; replace BK807 := kb_ BK807 hb; replace HB := kB_ HB hb; (try clear hb); (try clear hb2); (try clear hk); (try clear hi); obtain ⟨hcz11_0, hcz11_1, hfz11_0, hfz11_1⟩ := cz2_ BK807.out) | (go_at_call 83; (with_reducible refine (spec_l2Ok.calls k a0_0 _ _ l0_1 _ _ l1 true _ ?side1 ?side2 ?side3 ?side4 A5.out).mono ?_); (case side1 => exact nc_ (Kd.C_below HR0_1.out HB.out)); (case side2 => exact HC0_1.out); (case side3 => exact nc_ (Kd.C_below HR1.out HB.out)); (case side4 => exact HC1.out); rintro e w12 ⟨rfl, hb⟩; replace BK807 := kb_ BK807 hb; replace HB := kB_ HB hb; (try clear hb); (try clear hb2); (try clear hk); (try clear hi)))
   go_ret
   exact ⟨_, nw_, by first | exact Kd.R_nil _ _ _ _ _ | exact Kd.N_nil _ _ _ _ _ | exact Kd.V_nil _ _ _ _ _ | exact Kd.Q_nil _ _ _ _ _ | exact Kd.S_nil _ _ _ _ _, ne_ HB.out⟩
  rw [if_neg c7] at H
  have c7b0 : ((l1.length : Int) == 0) = false := beq_eq_false_iff_ne.mpr c7
  have c7b1 : ((l1.length : Int) != 0) = true := bne_iff_ne.mpr c7
  have c7b2 : ¬ (l1 = []) := fun h_ => c7 (by rw [h_]; rfl)
  by_cases c13 : 0 < (l1.length : Int)
  rotate_left
  ·rw [if_neg c13] at H
   exact absurd H (by simp)
  rw [if_pos c13] at H
  have c13b0 : decide (0 < (l1.length : Int)) = true := decide_eq_true c13
  have c13b1 : decide (0 < l1.length) = true := decide_eq_true (by omega)
  clear c13
  by_cases c14 : 0 ≤ (rd l1 0)
  rotate_left
  ·rw [if_neg c14] at H
   exact absurd H (by simp)
  rw [if_pos c14] at H
  have c14b0 : decide (0 ≤ (rd l1 0)) = true := decide_eq_true c14
  clear c14
  by_cases c15 : (rd l1 0) < (l0_1.length : Int)
  rotate_left
  ·rw [if_neg c15] at H
   exact absurd H (by simp)
  rw [if_pos c15] at H
  have c15b0 : decide ((rd l1 0) < (l0_1.length : Int)) = true := decide_eq_true c15
  clear c15
  replace H := Option.bind_eq_some_iff.mp H
  obtain ⟨t812, A160, H⟩ := H
  replace H : (some t812) = some r := H
  have A16 := Aside0.mk A160
  clear A160
  obtain rfl := Option.some.inj H
  go_enter Try.func51, Try.ntmps51
  try go_wp2_with (first | ((with_reducible refine gate_dst (N := 2) rfl ?_); (try (refine gate_guard (by rfl) ?_; dsimp only)); refine bx_ 2 #[.int .i64 a0_0, .slice A0_1 l0_1.length c0_1] 29 ?_; intro gb807 hg w17 hbox hb; have BK807 := Aside0.mk (hbox); have GW807 := Aside0.mk (zs_ hg (ne_ HB.out)); have GE807 := Aside0.mk (zs_ hg (ne_ HB.out)); replace HB := kB_ HB hb; clear hb hbox hg; obtain ⟨hcz18_0, hcz18_1, hfz18_0, hfz18_1⟩ := cz2_ BK807.out) | ((with_reducible refine gate_callee (f := 60) rfl ?_); refine gl_ (some 6) Try.func60 #[.agg #[.int .i64 a0_0, .slice A0_1 l0_1.length c0_1]] ?_; (with_reducible refine (spec_l1Ok.calls k a0_0 _ _ l0_1 true _ ?side1 ?side2 A3.out).mono ?_); (case side1 => exact nc_ (Kd.C_below HR0_1.out HB.out)); (case side2 => exact HC0_1.out); rintro e w19 ⟨rfl, hb⟩; refine ⟨_, rfl, ?_⟩; replace BK807 := kb_ BK807 hb; replace HB := kB_ HB hb; (try clear hb); (try clear hb2); (try clear hk); (try clear hi); obtain ⟨hcz20_0, hcz20_1, hfz20_0, hfz20_1⟩ := cz2_ BK807.out) | (go_at_call 83; (with_reducible refine (spec_l2Ok.calls k a0_0 _ _ l0_1 _ _ l1 true _ ?side1 ?side2 ?side3 ?side4 A5.out).mono ?_); (case side1 => exact nc_ (Kd.C_below HR0_1.out HB.out)); (case side2 => exact HC0_1.out); (case side3 => exact nc_ (Kd.C_below HR1.out HB.out)); (case side4 => exact HC1.out); rintro e w21 ⟨rfl, hb⟩; replace BK807 := kb_ BK807 hb; replace HB := kB_ HB hb; (try clear hb); (try clear hb2); (try clear hk); (try clear hi)))
  replace BK807 := Aside0.mk (blk_drew BK807.out)
  replace HB := Aside0.mk (below_drew1 HB.out)
  have p810 : 0 ≤ (0 : Int) := (by omega)
  have q810 : 0 < (l1.length : Int) := of_decide_eq_true nx_
  obtain ⟨ad810, e810, hx810_0⟩ := Kd.at_int HR1.out 0 p810 q810
  have hw810_0 := hx810_0
  (try rw [show ((0 : Int)).toNat = 0 from rfl] at hw810_0)
  (try rw [show 0 * 1 = 0 from rfl] at hw810_0)
  (try rw [Addr.add_zero'] at hw810_0)
  cases e810
  have qi810 : (0 < l1.length) = True := eq_true (by omega)
  (try rw [show ((0 : Int)).toNat = 0 from rfl] at hx810_0)
  (try rw [Addr.add_zero'] at hx810_0)
  replace hx810_0 := hb_ HB.out hx810_0
  replace p810 := eq_true p810
  replace q810 := eq_true q810
  have p811 : 0 ≤ ((rd l1 0) : Int) := of_decide_eq_true nx_
  have q811 : (rd l1 0) < (l0_1.length : Int) := of_decide_eq_true nx_
  obtain ⟨ad811, e811, hx811_0, hx811_1, hx811_2, hx811_3, hx811_4⟩ := at_T37 HR0_1.out (rd l1 0) p811 q811
  have hw811_4 := hx811_4
  have hw811_3 := hx811_3
  have hw811_2 := hx811_2
  have hw811_1 := hx811_1
  have hw811_0 := hx811_0
  cases e811
  replace hx811_0 := hb_ HB.out hx811_0
  replace hx811_1 := hb_ HB.out hx811_1
  replace hx811_2 := hb_ HB.out hx811_2
  replace hx811_3 := hb_ HB.out hx811_3
  replace hx811_4 := hb_ HB.out hx811_4
  replace p811 := eq_true p811
  replace q811 := eq_true q811
  refine start_ (n := 12) (S := fun w' => w'.cell? ⟨gb807, 0, none⟩ = some (.int .i64 a0_0) ∧ w'.cell? ⟨gb807, 1, none⟩ = some (.slice (some ad811) l0_1.length c0_1) ∧ w'.cell? ad810 = some (.int .i64 (rd l1 0)) ∧ w'.cell? (ad811.add (((rd l1 0)).toNat * 5)) = some (.int .i64 ((rd_T37 l0_1 (rd l1 0)).f0)) ∧ w'.cell? ⟨(ad811.add (((rd l1 0)).toNat * 5)).block, (ad811.add (((rd l1 0)).toNat * 5)).off + 1, none⟩ = some (.int .i64 ((rd_T37 l0_1 (rd l1 0)).f1)) ∧ w'.cell? ⟨(ad811.add (((rd l1 0)).toNat * 5)).block, (ad811.add (((rd l1 0)).toNat * 5)).off + 2, none⟩ = some (.int .i64 ((rd_T37 l0_1 (rd l1 0)).f2)) ∧ w'.cell? ⟨(ad811.add (((rd l1 0)).toNat * 5)).block, (ad811.add (((rd l1 0)).toNat * 5)).off + 3, none⟩ = some (.int .i64 ((rd_T37 l0_1 (rd l1 0)).f3)) ∧ w'.cell? ⟨(ad811.add (((rd l1 0)).toNat * 5)).block, (ad811.add (((rd l1 0)).toNat * 5)).off + 4, none⟩ = some (.int .i64 ((rd_T37 l0_1 (rd l1 0)).f4))) (ds := []) (bm_ 12 0) (by kernel_rfl) rfl rfl ⟨ct_ BK807.out 0, ct_ BK807.out 1, ((HB.out.cell (World.block_lt_of_cell? w _ hw810_0)).trans hw810_0), ((HB.out.cell (World.block_lt_of_cell? w _ hw811_0)).trans hw811_0), ((HB.out.cell (World.block_lt_of_cell? w _ hw811_1)).trans hw811_1), ((HB.out.cell (World.block_lt_of_cell? w _ hw811_2)).trans hw811_2), ((HB.out.cell (World.block_lt_of_cell? w _ hw811_3)).trans hw811_3), ((HB.out.cell (World.block_lt_of_cell? w _ hw811_4)).trans hw811_4)⟩ (fun hHeld => ?_); refine with_tabW spec_WalkNodes.tab3 spec_WalkNodes.bits3 (fun HT_ HW_ => ?_)
  generalize w21.drew = w22 at BK807 HB hx810_0 hx811_0 hx811_1 hx811_2 hx811_3 hx811_4 hHeld ⊢
  refine pu_ 1 20 (bm_ 12 2) HT_.out ?_
  refine pu_ 2 21 (bm_ 12 6) HT_.out ?_
  refine pu_ 4 23 (bm_ 12 22) HT_.out ?_
  refine pu_ 5 24 (bm_ 12 54) HT_.out ?_
  refine tk_ 0 19 (bm_ 12 55) HT_.out HW_.out hHeld ?_
  refine tk_ 3 22 (bm_ 12 63) HT_.out HW_.out hHeld ?_
  refine tk_ 6 25 (bm_ 12 127) HT_.out HW_.out hHeld ?_
  refine pu_ 7 26 (bm_ 12 255) HT_.out ?_
  refine pu_ 8 27 (bm_ 12 511) HT_.out ?_
  refine tk_ 9 28 (bm_ 12 1023) HT_.out HW_.out hHeld ?_
  refine one_ (i := 10) (N := some 29) (bm_ 12 2047) rfl rfl (one_of HT_.out (by kernel_rfl)) (by decide) (fun K hK => ?_)
  refine go_ Try.func87 #[.agg #[.int .i64 a0_0, .slice (some ad811) l0_1.length c0_1], .slice (some ad810) l1.length c1, .int .i64 ((rd_T37 l0_1 (rd l1 0)).f0)] ?_
  with_reducible refine (spec_l2Nodes.calls k a0_0 _ _ l0_1 _ _ l1 ((rd_T37 l0_1 (rd l1 0)).f0) t812 _ ?side1 ?side2 ?side3 ?side4 A16.out).mono ?_
  (case side1 => exact nc_ (Kd.C_below HR0_1.out HB.out))
  (case side2 => exact HC0_1.out)
  (case side3 => exact nc_ (Kd.C_below HR1.out HB.out))
  (case side4 => exact HC1.out)
  rintro e w23 ⟨v813, rfl, ho0, hb⟩
  refine ⟨_, rfl, ?_⟩
  have HO814 := Aside0.mk (Kd.R_lower ho0 (below_size (ne_ HB.out)))
  replace BK807 := kb_ BK807 hb
  replace HB := kB_ HB hb
  (try clear hb)
  (try clear hb2)
  (try clear hk)
  (try clear hi)
  (try clear ho0)
  refine hK.out _ _ ⟨ct_ BK807.out 0, ct_ BK807.out 1, ((HB.out.cell (World.block_lt_of_cell? w _ hw810_0)).trans hw810_0), ((HB.out.cell (World.block_lt_of_cell? w _ hw811_0)).trans hw811_0), ((HB.out.cell (World.block_lt_of_cell? w _ hw811_1)).trans hw811_1), ((HB.out.cell (World.block_lt_of_cell? w _ hw811_2)).trans hw811_2), ((HB.out.cell (World.block_lt_of_cell? w _ hw811_3)).trans hw811_3), ((HB.out.cell (World.block_lt_of_cell? w _ hw811_4)).trans hw811_4)⟩ (fun hHeld => ?_)
  clear hK K
  refine nm1_ (some 29) ?_
  refine pu_ 11 4 (bm_ 12 4095) HT_.out ?_
  refine done_ (done_of HT_.out (by kernel_rfl)) ?_
  try go_wp2
  go_ret
  exact ⟨_, nw_, nr_ HO814.out, ne_ HB.out⟩
end Go.Proofs.Ytpjmkghmjpbldaa.Print
