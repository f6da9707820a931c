-- Made by this session's own program (wip/patch_print.py, over the kit's print). Lean checks it.
import Derived.Test.YtfijdkjibjdbiaaPrint0
import Derived.Test.YtfijdkjibjdbiaaPrintB
import Derived.Test.YtfijdkjibjdbiaaPrintF18
import Derived.Test.YtfijdkjibjdbiaaPrintF19
namespace Go.Proofs.Ytfijdkjibjdbiaa.Print
open Go.RowKit Go.Proofs.YtfijdkjibjdbiaaW.PrintWords Go.Proofs.YtfijdkjibjdbiaaW.PrintLast Go.Proofs.YtfijdkjibjdbiaaW.PrintMore Go.Proofs.YtfijdkjibjdbiaaX
attribute [local go_sem] max2_int min2_int max_two min_two max_three min_three max_four min_four   -- for this text's walks alone
set_option linter.unusedVariables false
set_option linter.unusedSimpArgs false

abbrev z6_0 := bm_ 22 0
abbrev z6_1 := bm_ 22 1
abbrev z6_2 := bm_ 22 5
abbrev z6_3 := bm_ 22 69
abbrev z6_4 := bm_ 22 325
abbrev z6_5 := bm_ 22 327
abbrev z6_6 := bm_ 22 335
abbrev z6_7 := bm_ 22 351
abbrev z6_8 := bm_ 22 383
abbrev z6_9 := bm_ 22 511
abbrev z6_10 := bm_ 22 1023
abbrev z6_11 := bm_ 22 2047
abbrev z6_12 := bm_ 22 4095
abbrev z6_13 := bm_ 22 8191
abbrev z6_14 := bm_ 22 16383
abbrev z6_15 := bm_ 22 32767
abbrev z6_16 := bm_ 22 65535
abbrev z6_17 := bm_ 22 131071
abbrev z6_18 := bm_ 22 262143
abbrev z6_19 := bm_ 22 524287
abbrev z6_20 := bm_ 22 1048575
abbrev z6_21 := bm_ 22 2097151
abbrev z6_22 := bm_ 22 4194303
/-! ### spec_TurnNet: function 6 -/
mutual
def spec_TurnNet.j0 : Nat → List (S60) → Bool → Int → List (S36) → Option (Int × (List (S36)) × Bool)
  | 0, _, _, _, _ => none
  | k + 1, x1, x25, x261000, x261001 => if x25 = true then (some (0, ([] : List (S36)), false)) else (spec_TurnNet.l0 k x1 0 x261000 x261001 (x261001.length : Int) ([] : List (S36)))
def spec_TurnNet.l0 : Nat → List (S60) → Int → Int → List (S36) → Int → List (S36) → Option (Int × (List (S36)) × Bool)
  | 0, _, _, _, _, _, _ => none
  | k + 1, x1, x7, x261000, x261001, x266000, x266001 => if x7 < (x261001.length : Int) then (spec_TurnNet.l1 k x1 x7 0 x261000 x261001 x266000 x266001) else ((spec_l1Ok.f k x266000 x266001).bind fun t266 => (if t266 = true then (some (x266000, x266001, true)) else (some (0, ([] : List (S36)), false))))
def spec_TurnNet.l1 : Nat → List (S60) → Int → Int → Int → List (S36) → Int → List (S36) → Option (Int × (List (S36)) × Bool)
  | 0, _, _, _, _, _, _, _ => none
  | k + 1, x1, x7, x8, x261000, x261001, x266000, x266001 => if x8 < (x261001.length : Int) then ((spec_l4Cost.f k x1 x7 x8).bind fun t267 => (if 0 ≤ x7 then (if x7 < (x261001.length : Int) then (if 0 ≤ x8 then (if ((rd_T36 x261001 x7).f1) = ((rd_T36 x261001 x8).f0) then (if t267 ≥ 0 then (if x7 = x8 then (spec_TurnNet.l1 k x1 x7 (wrap64 (x8 + 1)) x261000 x261001 x266000 x266001) else (if x266001.length < 3518437208883 then (spec_TurnNet.l1 k x1 x7 (wrap64 (x8 + 1)) x261000 x261001 x266000 (x266001 ++ [(⟨x7, x8, wrap64 (t267 + ((rd_T36 x261001 x8).f2)), 0, 9⟩ : S36)])) else (none))) else (spec_TurnNet.l1 k x1 x7 (wrap64 (x8 + 1)) x261000 x261001 x266000 x266001)) else (spec_TurnNet.l1 k x1 x7 (wrap64 (x8 + 1)) x261000 x261001 x266000 x266001)) else (none)) else (none)) else (none))) else (spec_TurnNet.l0 k x1 (wrap64 (x7 + 1)) x261000 x261001 x266000 x266001)
end
def spec_TurnNet.f (k : Nat) (a0_0 : Int) (l0_1 : List (S36)) (l1 : List (S60)) : Option (Int × (List (S36)) × Bool) := (spec_l1Ok.f k a0_0 l0_1).bind fun t262 => (if t262 = true then ((spec_l4Ok.f k a0_0 l0_1 l1).bind fun t263 => (if t263 = true then ((spec_l1In.f (l0_1.length : Int) 1 8).bind fun t264 => (spec_TurnNet.j0 k l1 (!t264) a0_0 l0_1)) else (spec_TurnNet.j0 k l1 true a0_0 l0_1))) else (spec_TurnNet.j0 k l1 true a0_0 l0_1))
theorem spec_TurnNet.mono_l : ∀ k, (∀ y0 y1 y2 y3, LeO (spec_TurnNet.j0 k y0 y1 y2 y3) (spec_TurnNet.j0 (k + 1) y0 y1 y2 y3)) ∧ (∀ y0 y1 y2 y3 y4 y5, LeO (spec_TurnNet.l0 k y0 y1 y2 y3 y4 y5) (spec_TurnNet.l0 (k + 1) y0 y1 y2 y3 y4 y5)) ∧ (∀ y0 y1 y2 y3 y4 y5 y6, LeO (spec_TurnNet.l1 k y0 y1 y2 y3 y4 y5 y6) (spec_TurnNet.l1 (k + 1) y0 y1 y2 y3 y4 y5 y6))
  | 0 => ⟨fun _ _ _ _ r h => by simp [spec_TurnNet.j0] at h, fun _ _ _ _ _ _ r h => by simp [spec_TurnNet.l0] at h, fun _ _ _ _ _ _ _ r h => by simp [spec_TurnNet.l1] at h⟩
  | k + 1 => by
    obtain ⟨ih0, ih1, ih2⟩ := spec_TurnNet.mono_l k
    refine ⟨?_, ?_, ?_⟩
    · intro y0 y1 y2 y3
      unfold spec_TurnNet.j0
      repeat' first | (with_reducible first | exact ih0 _ _ _ _ | exact ih1 _ _ _ _ _ _ | exact ih2 _ _ _ _ _ _ _ | exact spec_l1Ok.mono _ _ _ | exact spec_l4Cost.mono _ _ _ _ | exact spec_l4Ok.mono _ _ _ _ | exact LeO.refl _ | exact LeO.none _ | refine LeO.ite ?_ ?_ | refine LeO.bind ?_ (fun _ => ?_)) | exact ih0 _ _ _ _ | exact ih1 _ _ _ _ _ _ | exact ih2 _ _ _ _ _ _ _ | exact spec_l1Ok.mono _ _ _ | exact spec_l4Cost.mono _ _ _ _ | exact spec_l4Ok.mono _ _ _ _ | exact LeO.none _ | refine LeO.ite ?_ ?_ | refine LeO.bind ?_ (fun _ => ?_)
    · intro y0 y1 y2 y3 y4 y5
      unfold spec_TurnNet.l0
      repeat' first | (with_reducible first | exact ih0 _ _ _ _ | exact ih1 _ _ _ _ _ _ | exact ih2 _ _ _ _ _ _ _ | exact spec_l1Ok.mono _ _ _ | exact spec_l4Cost.mono _ _ _ _ | exact spec_l4Ok.mono _ _ _ _ | exact LeO.refl _ | exact LeO.none _ | refine LeO.ite ?_ ?_ | refine LeO.bind ?_ (fun _ => ?_)) | exact ih0 _ _ _ _ | exact ih1 _ _ _ _ _ _ | exact ih2 _ _ _ _ _ _ _ | exact spec_l1Ok.mono _ _ _ | exact spec_l4Cost.mono _ _ _ _ | exact spec_l4Ok.mono _ _ _ _ | exact LeO.none _ | refine LeO.ite ?_ ?_ | refine LeO.bind ?_ (fun _ => ?_)
    · intro y0 y1 y2 y3 y4 y5 y6
      unfold spec_TurnNet.l1
      repeat' first | (with_reducible first | exact ih0 _ _ _ _ | exact ih1 _ _ _ _ _ _ | exact ih2 _ _ _ _ _ _ _ | exact spec_l1Ok.mono _ _ _ | exact spec_l4Cost.mono _ _ _ _ | exact spec_l4Ok.mono _ _ _ _ | exact LeO.refl _ | exact LeO.none _ | refine LeO.ite ?_ ?_ | refine LeO.bind ?_ (fun _ => ?_)) | exact ih0 _ _ _ _ | exact ih1 _ _ _ _ _ _ | exact ih2 _ _ _ _ _ _ _ | exact spec_l1Ok.mono _ _ _ | exact spec_l4Cost.mono _ _ _ _ | exact spec_l4Ok.mono _ _ _ _ | exact LeO.none _ | refine LeO.ite ?_ ?_ | refine LeO.bind ?_ (fun _ => ?_)
theorem spec_TurnNet.mono : ∀ a0 a1 a2 k, LeO (spec_TurnNet.f k a0 a1 a2) (spec_TurnNet.f (k + 1) a0 a1 a2) := by
  intro a0 a1 a2 k
  obtain ⟨ih0, ih1, ih2⟩ := spec_TurnNet.mono_l k
  unfold spec_TurnNet.f
  repeat' first | (with_reducible first | exact ih0 _ _ _ _ | exact ih1 _ _ _ _ _ _ | exact ih2 _ _ _ _ _ _ _ | exact spec_l1Ok.mono _ _ _ | exact spec_l4Cost.mono _ _ _ _ | exact spec_l4Ok.mono _ _ _ _ | exact LeO.refl _ | exact LeO.none _ | refine LeO.ite ?_ ?_ | refine LeO.bind ?_ (fun _ => ?_)) | exact ih0 _ _ _ _ | exact ih1 _ _ _ _ _ _ | exact ih2 _ _ _ _ _ _ _ | exact spec_l1Ok.mono _ _ _ | exact spec_l4Cost.mono _ _ _ _ | exact spec_l4Ok.mono _ _ _ _ | exact LeO.none _ | refine LeO.ite ?_ ?_ | refine LeO.bind ?_ (fun _ => ?_)
def spec_TurnNet.T11 : Bool × List (List Nat × List Nat) := (true, [([], []), ([0], [0]), ([], []), ([1, 2], [1, 2]), ([3], [3]), ([4], [4]), ([], []), ([6], [6]), ([], []), ([7, 8], [7, 8]), ([9], [9]), ([10], [10]), ([5, 11], [5, 11]), ([12], [12]), ([13], [13]), ([14, 13], [13, 14]), ([13, 15], [13, 15]), ([16, 13], [16]), ([17], [17]), ([17], [17]), ([18, 19, 17], [17, 18, 19]), ([17, 20], [17, 20])])
def spec_TurnNet.B11 : List Nat := [0, 1, 0, 7, 15, 31, 0, 64, 0, 448, 960, 1984, 4095, 8191, 16383, 32767, 65535, 131071, 262143, 262143, 1048575, 2097151]
theorem spec_TurnNet.tab11 : rtab .any (opsOf Try.f6 11) = spec_TurnNet.T11 := by kernel_rfl
theorem spec_TurnNet.bits11 : waitsOk spec_TurnNet.T11.2 spec_TurnNet.B11 = true := by kernel_rfl
def spec_TurnNet.T12 : Bool × List (List Nat × List Nat) := (true, [([], []), ([0], [0]), ([], []), ([], []), ([], []), ([], []), ([5], [5]), ([], []), ([6, 7], [6, 7]), ([8], [8]), ([9], [9]), ([4, 10], [4, 10]), ([2, 3, 11], [2, 3, 11]), ([12], [12]), ([1, 13], [1, 13]), ([0, 1, 2, 3, 4, 5, 6, 7, 8, 9, 10, 11, 12, 13, 14], []), ([15, 14, 14, 0, 1, 2, 3, 4, 5, 6, 7, 8, 9, 10, 11, 12, 13, 14], [14, 15])])
def spec_TurnNet.B12 : List Nat := [0, 1, 0, 0, 0, 0, 32, 0, 224, 480, 992, 2032, 4092, 8188, 16383, 32767, 65535]
theorem spec_TurnNet.tab12 : rtab .any (opsOf Try.f6 12) = spec_TurnNet.T12 := by kernel_rfl
theorem spec_TurnNet.bits12 : waitsOk spec_TurnNet.T12.2 spec_TurnNet.B12 = true := by kernel_rfl
set_option maxHeartbeats 200000000 in
set_option maxRecDepth 100000 in
theorem spec_TurnNet.calls (k : Nat) (a0_0 : Int) (A0_1 : Option Addr) (c0_1 : Nat) (l0_1 : List (S36)) (A1 : Option Addr) (c1 : Nat) (l1 : List (S60)) (r1 : Int) (r2 : List (S36)) (r3 : Bool) (w : World) (hr0_1 : Kd.C k36 w A0_1 l0_1.length l0_1) (hc0_1 : l0_1.length ≤ c0_1) (hr1 : Kd.C k60 w A1 l1.length l1) (hc1 : l1.length ≤ c1) (h : spec_TurnNet.f k a0_0 l0_1 l1 = some (r1, r2, r3)) :
    Calls Try.prog 6 #[.agg #[.int .i64 a0_0, .slice A0_1 l0_1.length c0_1], .slice A1 l1.length c1] w fun e w' => ∃ v1_ : Value, e = .returned (.tuple #[.agg #[.int .i64 r1, v1_], .bool r3]) ∧ Kd.R k36 36 w' w.heap.size (fun _ => True) v1_ r2 ∧ Below w.heap.size w w' := by
  have hu25 := Try.underlying25
  have hu36 := Try.underlying36
  have HR0_1 := Aside0.mk hr0_1
  have HC0_1 := Aside0.mk hc0_1
  clear hr0_1 hc0_1
  have HR1 := Aside0.mk hr1
  have HC1 := Aside0.mk hc1
  clear hr1 hc1
  have HB := Aside0.mk (Below.refl w.heap.size w)
  have H : ((spec_l1Ok.f k a0_0 l0_1).bind fun t262 => (if t262 = true then ((spec_l4Ok.f k a0_0 l0_1 l1).bind fun t263 => (if t263 = true then ((spec_l1In.f (l0_1.length : Int) 1 8).bind fun t264 => (spec_TurnNet.j0 k l1 (!t264) a0_0 l0_1)) else (spec_TurnNet.j0 k l1 true a0_0 l0_1))) else (spec_TurnNet.j0 k l1 true a0_0 l0_1))) = some (r1, r2, r3) := h
  clear h
  have HC3 := Aside0.mk H
  clear H
  go_enter Try.func6, Try.ntmps6
  go_upto_region 1 with (first | ((with_reducible refine gate_dst (N := 2) rfl ?_); (try (refine gate_guard (by rfl) ?_; dsimp only)); refine bx_ 2 #[.int .i64 a0_0, .slice A0_1 l0_1.length c0_1] 25 ?_; intro gb260 hg w4 hbox hb; have BK260 := Aside0.mk (hbox); have GW260 := Aside0.mk (zs_ hg (ne_ HB.out)); have GE260 := Aside0.mk (zs_ hg (ne_ HB.out)); replace HB := kB_ HB hb; clear hb hbox hg) | ((with_reducible refine gate_dst (N := 4) rfl ?_); (try (refine gate_guard (by rfl) ?_; dsimp only)); refine bx_ 4 #[.int .i64 0, .slice none 0 0] 25 ?_; intro gb261 hg w5 hbox hb; have BK261 := Aside0.mk (hbox); have GW261 := Aside0.mk (zs_ hg (ne_ HB.out)); have GE261 := Aside0.mk (zs_ hg (ne_ HB.out)); have NB260_261 := Aside0.mk (nl_ BK260.out hg); have NB261_260 := Aside0.mk (nm_ BK260.out hg); replace BK260 := kb_ BK260 hb; replace HB := kB_ HB hb; clear hb hbox hg))
  (try simp only [Act.put, List.setIfInBounds_toArray, List.set_cons_zero, List.set_cons_succ])
  go_cut [25] (fun v25 wc => ∃ (kq : Nat) (x25_2 : Bool), v25 = .bool x25_2 ∧ Aside0 (spec_TurnNet.j0 kq l1 x25_2 a0_0 l0_1 = some (r1, r2, r3)) ∧ Aside0 (kq ≤ k) ∧ Aside0 (wc.heap[gb260]? = some (.cells #[.int .i64 a0_0, (.slice A0_1 l0_1.length c0_1)] 25 (0, 0))) ∧ Aside0 (wc.heap[gb261]? = some (.cells #[.int .i64 0, (.slice none 0 0)] 25 (0, 0))) ∧ Aside0 (Below w.heap.size w wc))
  case first =>
   have H := HC3.out
   clear HC3
   replace H := Option.bind_eq_some_iff.mp H
   obtain ⟨t262, A60, H⟩ := H
   try dsimp only at H
   have A6 := Aside0.mk A60
   clear A60
   by_cases c7 : t262 = true
   rotate_left
   ·replace c7 := Bool.eq_false_iff.mpr c7
    subst c7
    have H1 : (spec_TurnNet.j0 k l1 true a0_0 l0_1) = some (r1, r2, r3) := by rw [if_neg (show ¬ (false = true) by decide)] at H; exact H
    clear H
    have H := H1
    clear H1
    have H' := Aside0.mk H
    clear H
    have hnb22 := NB260_261.out
    have hnc22 := NB261_260.out
    obtain ⟨hcz23_0, hcz23_1, hfz23_0, hfz23_1⟩ := cz2_ BK260.out
    go_wp2_with (first | ((with_reducible refine gate_callee (f := 18) rfl ?_); refine gl_ (some 11) Try.func18 #[.agg #[.int .i64 a0_0, .slice A0_1 l0_1.length c0_1]] ?_; (with_reducible refine (spec_l1Ok.calls k a0_0 _ _ l0_1 false _ ?side1 ?side2 A6.out).mono ?_); (case side1 => exact nc_ (Kd.C_below HR0_1.out HB.out)); (case side2 => exact HC0_1.out); rintro e w24 ⟨rfl, hb⟩; refine ⟨_, rfl, ?_⟩; replace BK260 := kb_ BK260 hb; replace BK261 := kb_ BK261 hb; replace HB := kB_ HB hb; (try clear hb); (try clear hb2); (try clear hk); (try clear hi)))
    go_meet
    case rel => exact ⟨_, (true), ns_, H', ⟨by first | omega | exact Nat.le_refl _⟩, ⟨nb_ BK260.out⟩, ⟨nb_ BK261.out⟩, ⟨ne_ HB.out⟩⟩
   subst c7
   rw [if_pos rfl] at H
   replace H := Option.bind_eq_some_iff.mp H
   obtain ⟨t263, A80, H⟩ := H
   try dsimp only at H
   have A8 := Aside0.mk A80
   clear A80
   by_cases c9 : t263 = true
   rotate_left
   ·replace c9 := Bool.eq_false_iff.mpr c9
    subst c9
    have H1 : (spec_TurnNet.j0 k l1 true a0_0 l0_1) = some (r1, r2, r3) := by rw [if_neg (show ¬ (false = true) by decide)] at H; exact H
    clear H
    have H := H1
    clear H1
    have H' := Aside0.mk H
    clear H
    have hnb17 := NB260_261.out
    have hnc17 := NB261_260.out
    obtain ⟨hcz18_0, hcz18_1, hfz18_0, hfz18_1⟩ := cz2_ BK260.out
    go_wp2_with (first | ((with_reducible refine gate_callee (f := 18) rfl ?_); refine gl_ (some 11) Try.func18 #[.agg #[.int .i64 a0_0, .slice A0_1 l0_1.length c0_1]] ?_; (with_reducible refine (spec_l1Ok.calls k a0_0 _ _ l0_1 true _ ?side1 ?side2 A6.out).mono ?_); (case side1 => exact nc_ (Kd.C_below HR0_1.out HB.out)); (case side2 => exact HC0_1.out); rintro e w19 ⟨rfl, hb⟩; refine ⟨_, rfl, ?_⟩; replace BK260 := kb_ BK260 hb; replace BK261 := kb_ BK261 hb; replace HB := kB_ HB hb; (try clear hb); (try clear hb2); (try clear hk); (try clear hi); obtain ⟨hcz20_0, hcz20_1, hfz20_0, hfz20_1⟩ := cz2_ BK260.out) | (go_at_call 19; (with_reducible refine (spec_l4Ok.calls k a0_0 _ _ l0_1 _ _ l1 false _ ?side1 ?side2 ?side3 ?side4 A8.out).mono ?_); (case side1 => exact nc_ (Kd.C_below HR0_1.out HB.out)); (case side2 => exact HC0_1.out); (case side3 => exact nc_ (Kd.C_below HR1.out HB.out)); (case side4 => exact HC1.out); rintro e w21 ⟨rfl, hb⟩; replace BK260 := kb_ BK260 hb; replace BK261 := kb_ BK261 hb; replace HB := kB_ HB hb; (try clear hb); (try clear hb2); (try clear hk); (try clear hi)))
    go_meet
    case rel => exact ⟨_, (true), ns_, H', ⟨by first | omega | exact Nat.le_refl _⟩, ⟨nb_ BK260.out⟩, ⟨nb_ BK261.out⟩, ⟨ne_ HB.out⟩⟩
   subst c9
   rw [if_pos rfl] at H
   replace H := Option.bind_eq_some_iff.mp H
   obtain ⟨t264, A100, H⟩ := H
   replace H : (spec_TurnNet.j0 k l1 (!t264) a0_0 l0_1) = some (r1, r2, r3) := H
   have A10 := Aside0.mk A100
   clear A100
   have H' := Aside0.mk H
   clear H
   have hnb11 := NB260_261.out
   have hnc11 := NB261_260.out
   obtain ⟨hcz12_0, hcz12_1, hfz12_0, hfz12_1⟩ := cz2_ BK260.out
   go_wp2_with (first | ((with_reducible refine gate_callee (f := 18) rfl ?_); refine gl_ (some 11) Try.func18 #[.agg #[.int .i64 a0_0, .slice A0_1 l0_1.length c0_1]] ?_; (with_reducible refine (spec_l1Ok.calls k a0_0 _ _ l0_1 true _ ?side1 ?side2 A6.out).mono ?_); (case side1 => exact nc_ (Kd.C_below HR0_1.out HB.out)); (case side2 => exact HC0_1.out); rintro e w13 ⟨rfl, hb⟩; refine ⟨_, rfl, ?_⟩; replace BK260 := kb_ BK260 hb; replace BK261 := kb_ BK261 hb; replace HB := kB_ HB hb; (try clear hb); (try clear hb2); (try clear hk); (try clear hi); obtain ⟨hcz14_0, hcz14_1, hfz14_0, hfz14_1⟩ := cz2_ BK260.out) | (go_at_call 19; (with_reducible refine (spec_l4Ok.calls k a0_0 _ _ l0_1 _ _ l1 true _ ?side1 ?side2 ?side3 ?side4 A8.out).mono ?_); (case side1 => exact nc_ (Kd.C_below HR0_1.out HB.out)); (case side2 => exact HC0_1.out); (case side3 => exact nc_ (Kd.C_below HR1.out HB.out)); (case side4 => exact HC1.out); rintro e w15 ⟨rfl, hb⟩; replace BK260 := kb_ BK260 hb; replace BK261 := kb_ BK261 hb; replace HB := kB_ HB hb; (try clear hb); (try clear hb2); (try clear hk); (try clear hi); obtain ⟨hcz16_0, hcz16_1, hfz16_0, hfz16_1⟩ := cz2_ BK260.out) | (go_at_call 20; (with_reducible refine (spec_l1In.calls (l0_1.length : Int) 1 8 t264 _ A10.out).mono ?_); rintro e w' ⟨rfl, ⟨nd, rfl⟩⟩))
   go_meet
   case rel => exact ⟨_, (!t264), ns_, H', ⟨by first | omega | exact Nat.le_refl _⟩, ⟨nb_ BK260.out⟩, ⟨nb_ BK261.out⟩, ⟨ne_ HB.out⟩⟩
  case rest =>
   clear HC3
   try clear c1
   obtain ⟨kq, x25_2, rfl, HA, HJ2, BK260, BK261, HB⟩ := hcut
   cases kq with
   | zero => exact absurd HA.out (by simp [spec_TurnNet.j0])
   | succ kj2 =>
    have H := HA.out
    clear HA
    simp only [spec_TurnNet.j0] at H
    by_cases c25 : x25_2 = true
    ·subst c25
     have H1 : (some (0, ([] : List (S36)), false)) = some (r1, r2, r3) := by rw [if_pos rfl] at H; exact H
     clear H
     have H := H1
     clear H1
     simp only [Option.some.injEq, Prod.mk.injEq] at H
     obtain ⟨rfl, rfl, rfl⟩ := H
     have hnb26 := NB261_260.out
     have hnc26 := NB260_261.out
     obtain ⟨hcz27_0, hcz27_1, hfz27_0, hfz27_1⟩ := cz2_ BK261.out
     go_wp2
     refine bodyPost_ret (results_ct rfl _ _ gb261 25 #[.int .i64 0, .slice none 0 0] (0, 0) _ rfl (np_ BK261.out) Try.underlying25 rfl (by kernel_rfl)) rfl ?_
     exact ⟨_, nw_, by first | exact Kd.R_nil _ _ _ _ _ | exact Kd.N_nil _ _ _ _ _ | exact Kd.V_nil _ _ _ _ _ | exact Kd.Q_nil _ _ _ _ _ | exact Kd.S_nil _ _ _ _ _, ne_ HB.out⟩
    replace c25 := Bool.eq_false_iff.mpr c25
    subst c25
    have H1 : (spec_TurnNet.l0 kj2 l1 0 a0_0 l0_1 (l0_1.length : Int) ([] : List (S36))) = some (r1, r2, r3) := by rw [if_neg (show ¬ (false = true) by decide)] at H; exact H
    clear H
    have H := H1
    clear H1
    have H' := Aside0.mk H
    clear H
    have hnb28 := NB260_261.out
    have hnc28 := NB261_260.out
    obtain ⟨hcz29_0, hcz29_1, hfz29_0, hfz29_1⟩ := cz2_ BK260.out
    go_wp2_with (first | ((with_reducible refine gate_dst (N := 6) rfl ?_); (try (refine gate_guard (by rfl) ?_; dsimp only)); refine bx_ 6 #[.int .i64 0, .slice none 0 0] 25 ?_; intro gb265 hg w30 hbox hb; have BK265 := Aside0.mk (hbox); have GW265 := Aside0.mk (zs_ hg (ne_ HB.out)); have GE265 := Aside0.mk (zs_ hg (ne_ HB.out)); have NB260_265 := Aside0.mk (nl_ BK260.out hg); have NB265_260 := Aside0.mk (nm_ BK260.out hg); have NB261_265 := Aside0.mk (nl_ BK261.out hg); have NB265_261 := Aside0.mk (nm_ BK261.out hg); replace BK260 := kb_ BK260 hb; replace BK261 := kb_ BK261 hb; replace HB := kB_ HB hb; clear hb hbox hg; have hnb31 := NB265_260.out; have hnc31 := NB260_265.out; have hnb32 := NB265_261.out; have hnc32 := NB261_265.out; obtain ⟨hcz33_0, hcz33_1, hfz33_0, hfz33_1⟩ := cz2_ BK265.out))
    go_loopg [7] kj2 (fun kq v7 w' => ∃ (x7_2 : Int) (x266001_2 : List (S36)) (u266001 : Value), v7 = .int .i64 x7_2 ∧ Aside0 (spec_TurnNet.l0 kq l1 x7_2 a0_0 l0_1 (l0_1.length : Int) x266001_2 = some (r1, r2, r3)) ∧ Aside0 (kq ≤ kj2) ∧ Aside0 (Kd.R k36 36 w' w.heap.size (fun _ => True) u266001 x266001_2) ∧ Aside0 (w'.heap[gb260]? = some (.cells #[.int .i64 a0_0, (.slice A0_1 l0_1.length c0_1)] 25 (0, 0))) ∧ Aside0 (w'.heap[gb261]? = some (.cells #[.int .i64 0, (.slice none 0 0)] 25 (0, 0))) ∧ Aside0 (w'.heap[gb265]? = some (.cells #[.int .i64 (l0_1.length : Int), u266001] 25 (0, 0))) ∧ Aside0 (Below w.heap.size w w'))
    case atStart => exact ⟨(0), (([] : List (S36))), (.slice none 0 0), ns_, H', ⟨Nat.le_refl _⟩, ⟨by first | exact Kd.R_nil _ _ _ _ _ | exact Kd.N_nil _ _ _ _ _ | exact Kd.V_nil _ _ _ _ _ | exact Kd.Q_nil _ _ _ _ _ | exact Kd.S_nil _ _ _ _ _⟩, ⟨np_ BK260.out⟩, ⟨np_ BK261.out⟩, ⟨np_ BK265.out⟩, ⟨ne_ HB.out⟩⟩
    case round =>
     clear H'
     try clear c1
     try clear c25
     try clear hcz29_0
     try clear hcz29_1
     try clear hcz33_0
     try clear hcz33_1
     try clear hfz29_0
     try clear hfz29_1
     try clear hfz33_0
     try clear hfz33_1
     obtain ⟨x7_2, x266001_2, u266001, rfl, HA, HK2, HO_266001, BK260, BK261, BK265, HB⟩ := hrel
     cases gk with
     | zero => exact absurd HA.out (by simp [spec_TurnNet.l0])
     | succ k2 =>
      have H := HA.out
      clear HA
      simp only [spec_TurnNet.l0] at H
      by_cases c34 : x7_2 < (l0_1.length : Int)
      rotate_left
      ·rw [if_neg c34] at H
       have c34b0 : decide (x7_2 < (l0_1.length : Int)) = false := decide_eq_false c34
       clear c34
       replace H := Option.bind_eq_some_iff.mp H
       obtain ⟨t266, A700, H⟩ := H
       try dsimp only at H
       have A70 := Aside0.mk A700
       clear A700
       by_cases c71 : t266 = true
       rotate_left
       ·replace c71 := Bool.eq_false_iff.mpr c71
        subst c71
        have H1 : (some (0, ([] : List (S36)), false)) = some (r1, r2, r3) := by rw [if_neg (show ¬ (false = true) by decide)] at H; exact H
        clear H
        have H := H1
        clear H1
        simp only [Option.some.injEq, Prod.mk.injEq] at H
        obtain ⟨rfl, rfl, rfl⟩ := H
        have hnb81 := NB260_261.out
        have hnc81 := NB261_260.out
        have hnb82 := NB260_265.out
        have hnc82 := NB265_260.out
        obtain ⟨hcz83_0, hcz83_1, hfz83_0, hfz83_1⟩ := cz2_ BK260.out
        have hnb84 := NB265_261.out
        have hnc84 := NB261_265.out
        obtain ⟨hcz85_0, hcz85_1, hfz85_0, hfz85_1⟩ := cz2_ BK265.out
        obtain ⟨Ao86, co86, eo86⟩ := Kd.R_slice HO_266001.out
        subst eo86
        go_wp2_with (first | ((with_reducible refine gate_callee (f := 18) rfl ?_); refine gl_ (some 88) Try.func18 #[.agg #[.int .i64 (l0_1.length : Int), .slice Ao86 x266001_2.length co86]] ?_; (with_reducible refine (spec_l1Ok.calls k2 (l0_1.length : Int) _ _ x266001_2 false _ ?side1 ?side2 A70.out).mono ?_); (case side1 => exact nc_ (Kd.R_reads' HO_266001.out).2.2); (case side2 => exact (Kd.R_reads' HO_266001.out).2.1); rintro e w87 ⟨rfl, hb⟩; refine ⟨_, rfl, ?_⟩; replace HO_266001 := kR_ HO_266001 hb; replace BK260 := kb_ BK260 hb; replace BK261 := kb_ BK261 hb; replace BK265 := kb_ BK265 hb; replace HB := kB_ HB hb; (try clear hb); (try clear hb2); (try clear hk); (try clear hi); obtain ⟨hcz88_0, hcz88_1, hfz88_0, hfz88_1⟩ := cz2_ BK261.out))
        refine bodyPost_ret (results_ct rfl _ _ gb261 25 #[.int .i64 0, .slice none 0 0] (0, 0) _ rfl (np_ BK261.out) Try.underlying25 rfl (by kernel_rfl)) rfl ?_
        exact ⟨_, nw_, by first | exact Kd.R_nil _ _ _ _ _ | exact Kd.N_nil _ _ _ _ _ | exact Kd.V_nil _ _ _ _ _ | exact Kd.Q_nil _ _ _ _ _ | exact Kd.S_nil _ _ _ _ _, ne_ HB.out⟩

       subst c71
       have H1 : (some ((l0_1.length : Int), x266001_2, true)) = some (r1, r2, r3) := by rw [if_pos rfl] at H; exact H
       clear H
       have H := H1
       clear H1
       simp only [Option.some.injEq, Prod.mk.injEq] at H
       obtain ⟨rfl, rfl, rfl⟩ := H
       have hnb72 := NB260_261.out
       have hnc72 := NB261_260.out
       have hnb73 := NB260_265.out
       have hnc73 := NB265_260.out
       obtain ⟨hcz74_0, hcz74_1, hfz74_0, hfz74_1⟩ := cz2_ BK260.out
       have hnb75 := NB265_261.out
       have hnc75 := NB261_265.out
       obtain ⟨hcz76_0, hcz76_1, hfz76_0, hfz76_1⟩ := cz2_ BK265.out
       obtain ⟨Ao77, co77, eo77⟩ := Kd.R_slice HO_266001.out
       subst eo77
       go_wp2_with (first | ((with_reducible refine gate_callee (f := 18) rfl ?_); refine gl_ (some 88) Try.func18 #[.agg #[.int .i64 (l0_1.length : Int), .slice Ao77 x266001_2.length co77]] ?_; (with_reducible refine (spec_l1Ok.calls k2 (l0_1.length : Int) _ _ x266001_2 true _ ?side1 ?side2 A70.out).mono ?_); (case side1 => exact nc_ (Kd.R_reads' HO_266001.out).2.2); (case side2 => exact (Kd.R_reads' HO_266001.out).2.1); rintro e w78 ⟨rfl, hb⟩; refine ⟨_, rfl, ?_⟩; replace HO_266001 := kR_ HO_266001 hb; replace BK260 := kb_ BK260 hb; replace BK261 := kb_ BK261 hb; replace BK265 := kb_ BK265 hb; replace HB := kB_ HB hb; (try clear hb); (try clear hb2); (try clear hk); (try clear hi); obtain ⟨hcz79_0, hcz79_1, hfz79_0, hfz79_1⟩ := cz2_ BK265.out; obtain ⟨hcz80_0, hcz80_1, hfz80_0, hfz80_1⟩ := cz2_ BK261.out))
       refine bodyPost_ret (results_ct rfl _ _ gb261 25 #[.int .i64 (l0_1.length : Int), .slice Ao77 x266001_2.length co77] (0, 0) _ rfl (np_ BK261.out) Try.underlying25 rfl (by kernel_rfl)) rfl ?_
       exact ⟨_, nw_, by (with_reducible repeat (first | apply Kd.R_alloc | apply Kd.R_drewN | apply Kd.R_drew)); exact Kd.R_mono (rf2_ (Kd.R_types HO_266001.out BK261.out (by decide))) (fun _ hk => trivial), ne_ HB.out⟩
      rw [if_pos c34] at H
      have c34b0 : decide (x7_2 < (l0_1.length : Int)) = true := decide_eq_true c34
      clear c34
      have H' := Aside0.mk H
      clear H
      have hnb35 := NB260_261.out
      have hnc35 := NB261_260.out
      have hnb36 := NB260_265.out
      have hnc36 := NB265_260.out
      obtain ⟨hcz37_0, hcz37_1, hfz37_0, hfz37_1⟩ := cz2_ BK260.out
      go_wp2
      go_loopg [8] k2 (fun kq v8 w' => ∃ (x8_3 : Int) (x266001_3 : List (S36)) (u266001 : Value), v8 = .int .i64 x8_3 ∧ Aside0 (spec_TurnNet.l1 kq l1 x7_2 x8_3 a0_0 l0_1 (l0_1.length : Int) x266001_3 = some (r1, r2, r3)) ∧ Aside0 (kq ≤ k2) ∧ Aside0 (Kd.R k36 36 w' w.heap.size (fun _ => True) u266001 x266001_3) ∧ Aside0 (w'.heap[gb260]? = some (.cells #[.int .i64 a0_0, (.slice A0_1 l0_1.length c0_1)] 25 (0, 0))) ∧ Aside0 (w'.heap[gb261]? = some (.cells #[.int .i64 0, (.slice none 0 0)] 25 (0, 0))) ∧ Aside0 (w'.heap[gb265]? = some (.cells #[.int .i64 (l0_1.length : Int), u266001] 25 (0, 0))) ∧ Aside0 (Below w.heap.size w w'))
      case atStart => exact ⟨(0), (x266001_2), (u266001), ns_, H', ⟨Nat.le_refl _⟩, ⟨nr_ HO_266001.out⟩, ⟨nb_ BK260.out⟩, ⟨nb_ BK261.out⟩, ⟨nb_ BK265.out⟩, ⟨ne_ HB.out⟩⟩
      case round =>
       clear H'
       try clear c1
       try clear c25
       try clear c34
       try clear c34b0
       try clear hcz29_0
       try clear hcz29_1
       try clear hcz33_0
       try clear hcz33_1
       try clear hcz37_0
       try clear hcz37_1
       try clear hfz29_0
       try clear hfz29_1
       try clear hfz33_0
       try clear hfz33_1
       try clear hfz37_0
       try clear hfz37_1
       obtain ⟨x8_3, x266001_3, u266001, rfl, HA, HK3, HO_266001, BK260, BK261, BK265, HB⟩ := hrel
       cases gk with
       | zero => exact absurd HA.out (by simp [spec_TurnNet.l1])
       | succ k3 =>
        have H := HA.out
        clear HA
        simp only [spec_TurnNet.l1] at H
        by_cases c38 : x8_3 < (l0_1.length : Int)
        rotate_left
        ·rw [if_neg c38] at H
         have c38b0 : decide (x8_3 < (l0_1.length : Int)) = false := decide_eq_false c38
         clear c38
         have H' := Aside0.mk H
         clear H
         have hnb67 := NB260_261.out
         have hnc67 := NB261_260.out
         have hnb68 := NB260_265.out
         have hnc68 := NB265_260.out
         obtain ⟨hcz69_0, hcz69_1, hfz69_0, hfz69_1⟩ := cz2_ BK260.out
         go_wp2
         go_roundg k3
         case measure => have := HJ2.out; have := HK2.out; have := HK3.out; omega
         case rel => exact ⟨(wrap64 (x7_2 + 1)), (x266001_3), (u266001), ns_, H', ⟨by have := HJ2.out; have := HK2.out; have := HK3.out; omega⟩, ⟨nr_ HO_266001.out⟩, ⟨nb_ BK260.out⟩, ⟨nb_ BK261.out⟩, ⟨nb_ BK265.out⟩, ⟨ne_ HB.out⟩⟩
        rw [if_pos c38] at H
        have c38b0 : decide (x8_3 < (l0_1.length : Int)) = true := decide_eq_true c38
        clear c38
        replace H := Option.bind_eq_some_iff.mp H
        obtain ⟨t267, A390, H⟩ := H
        try dsimp only at H
        have A39 := Aside0.mk A390
        clear A390
        by_cases c40 : 0 ≤ x7_2
        rotate_left
        ·rw [if_neg c40] at H
         exact absurd H (by simp)
        rw [if_pos c40] at H
        have c40b0 : decide (0 ≤ x7_2) = true := decide_eq_true c40
        clear c40
        by_cases c41 : x7_2 < (l0_1.length : Int)
        rotate_left
        ·rw [if_neg c41] at H
         exact absurd H (by simp)
        rw [if_pos c41] at H
        have c41b0 : decide (x7_2 < (l0_1.length : Int)) = true := decide_eq_true c41
        clear c41
        by_cases c42 : 0 ≤ x8_3
        rotate_left
        ·rw [if_neg c42] at H
         exact absurd H (by simp)
        rw [if_pos c42] at H
        have c42b0 : decide (0 ≤ x8_3) = true := decide_eq_true c42
        clear c42
        by_cases c43 : ((rd_T36 l0_1 x7_2).f1) = ((rd_T36 l0_1 x8_3).f0)
        rotate_left
        ·rw [if_neg c43] at H
         have c43b0 : (((rd_T36 l0_1 x7_2).f1) == ((rd_T36 l0_1 x8_3).f0)) = false := beq_eq_false_iff_ne.mpr c43
         have c43b1 : (((rd_T36 l0_1 x7_2).f1) != ((rd_T36 l0_1 x8_3).f0)) = true := bne_iff_ne.mpr c43
         have H' := Aside0.mk H
         clear H
         have hnb63 := NB260_261.out
         have hnc63 := NB261_260.out
         have hnb64 := NB260_265.out
         have hnc64 := NB265_260.out
         obtain ⟨hcz65_0, hcz65_1, hfz65_0, hfz65_1⟩ := cz2_ BK260.out
         try go_wp2_with (first | ((with_reducible refine gate_callee (f := 21) rfl ?_); refine gl_ (some 48) Try.func21 #[.slice A1 l1.length c1, .int .i64 x7_2, .int .i64 x8_3] ?_; (with_reducible refine (spec_l4Cost.calls k3 _ _ l1 x7_2 x8_3 t267 _ ?side1 ?side2 A39.out).mono ?_); (case side1 => exact nc_ (Kd.C_below HR1.out HB.out)); (case side2 => exact HC1.out); rintro e w' ⟨rfl, ⟨nd, rfl⟩⟩; refine ⟨_, rfl, ?_⟩))
         (first | (rw [drewN_self wr]; generalize hq_ : World.drewN wr _ = wr; replace HO_266001 : Aside0 (Kd.R k36 36 wr w.heap.size (fun _ => True) u266001 x266001_3) := ⟨by rw [← hq_]; exact (nr_ HO_266001.out)⟩; replace BK260 : Aside0 (wr.heap[gb260]? = some (.cells #[.int .i64 a0_0, .slice A0_1 l0_1.length c0_1] 25 (0, 0))) := ⟨by rw [← hq_]; exact (nb_ BK260.out)⟩; replace BK261 : Aside0 (wr.heap[gb261]? = some (.cells #[.int .i64 0, .slice none 0 0] 25 (0, 0))) := ⟨by rw [← hq_]; exact (nb_ BK261.out)⟩; replace BK265 : Aside0 (wr.heap[gb265]? = some (.cells #[.int .i64 (l0_1.length : Int), u266001] 25 (0, 0))) := ⟨by rw [← hq_]; exact (nb_ BK265.out)⟩; replace HB : Aside0 (Below w.heap.size w wr) := ⟨by rw [← hq_]; exact (ne_ HB.out)⟩; clear hq_) | (have n0_ : Aside0 (Kd.R k36 36 wr w.heap.size (fun _ => True) u266001 x266001_3) := ⟨(nr_ HO_266001.out)⟩; have n1_ : Aside0 (wr.heap[gb260]? = some (.cells #[.int .i64 a0_0, .slice A0_1 l0_1.length c0_1] 25 (0, 0))) := ⟨(nb_ BK260.out)⟩; have n2_ : Aside0 (wr.heap[gb261]? = some (.cells #[.int .i64 0, .slice none 0 0] 25 (0, 0))) := ⟨(nb_ BK261.out)⟩; have n3_ : Aside0 (wr.heap[gb265]? = some (.cells #[.int .i64 (l0_1.length : Int), u266001] 25 (0, 0))) := ⟨(nb_ BK265.out)⟩; have n4_ : Aside0 (Below w.heap.size w wr) := ⟨(ne_ HB.out)⟩; clear HO_266001 BK260 BK261 BK265 HB; have HO_266001 := n0_; have BK260 := n1_; have BK261 := n2_; have BK265 := n3_; have HB := n4_; clear n0_ n1_ n2_ n3_ n4_))
         replace HO_266001 := Aside0.mk (Kd.R_drew HO_266001.out)
         replace BK260 := Aside0.mk (blk_drew BK260.out)
         replace BK261 := Aside0.mk (blk_drew BK261.out)
         replace BK265 := Aside0.mk (blk_drew BK265.out)
         replace HB := Aside0.mk (below_drew1 HB.out)
         have p268 : 0 ≤ (x7_2 : Int) := of_decide_eq_true nx_
         have q268 : x7_2 < (l0_1.length : Int) := of_decide_eq_true nx_
         obtain ⟨ad268, e268, hx268_0, hx268_1, hx268_2, hx268_3, hx268_4⟩ := at_T36 HR0_1.out x7_2 p268 q268
         have hw268_4 := hx268_4
         have hw268_3 := hx268_3
         have hw268_2 := hx268_2
         have hw268_1 := hx268_1
         have hw268_0 := hx268_0
         cases e268
         replace hx268_0 := hb_ HB.out hx268_0
         replace hx268_1 := hb_ HB.out hx268_1
         replace hx268_2 := hb_ HB.out hx268_2
         replace hx268_3 := hb_ HB.out hx268_3
         replace hx268_4 := hb_ HB.out hx268_4
         replace p268 := eq_true p268
         replace q268 := eq_true q268
         have p269 : 0 ≤ (x8_3 : Int) := of_decide_eq_true nx_
         have q269 : x8_3 < (l0_1.length : Int) := of_decide_eq_true nx_
         obtain ⟨ad269, e269, hx269_0, hx269_1, hx269_2, hx269_3, hx269_4⟩ := at_T36 HR0_1.out x8_3 p269 q269
         have hw269_4 := hx269_4
         have hw269_3 := hx269_3
         have hw269_2 := hx269_2
         have hw269_1 := hx269_1
         have hw269_0 := hx269_0
         obtain rfl : ad268 = ad269 := (by injection e269)
         replace hx269_0 := hb_ HB.out hx269_0
         replace hx269_1 := hb_ HB.out hx269_1
         replace hx269_2 := hb_ HB.out hx269_2
         replace hx269_3 := hb_ HB.out hx269_3
         replace hx269_4 := hb_ HB.out hx269_4
         replace p269 := eq_true p269
         replace q269 := eq_true q269
         refine start_ (n := 22) (S := fun w' => w'.cell? ⟨gb260, 0, none⟩ = some (.int .i64 a0_0) ∧ w'.cell? ⟨gb260, 1, none⟩ = some (.slice (some ad268) l0_1.length c0_1) ∧ w'.cell? (ad268.add ((x7_2).toNat * 5)) = some (.int .i64 ((rd_T36 l0_1 x7_2).f0)) ∧ w'.cell? ⟨(ad268.add ((x7_2).toNat * 5)).block, (ad268.add ((x7_2).toNat * 5)).off + 1, none⟩ = some (.int .i64 ((rd_T36 l0_1 x7_2).f1)) ∧ w'.cell? ⟨(ad268.add ((x7_2).toNat * 5)).block, (ad268.add ((x7_2).toNat * 5)).off + 2, none⟩ = some (.int .i64 ((rd_T36 l0_1 x7_2).f2)) ∧ w'.cell? ⟨(ad268.add ((x7_2).toNat * 5)).block, (ad268.add ((x7_2).toNat * 5)).off + 3, none⟩ = some (.int .i64 ((rd_T36 l0_1 x7_2).f3)) ∧ w'.cell? ⟨(ad268.add ((x7_2).toNat * 5)).block, (ad268.add ((x7_2).toNat * 5)).off + 4, none⟩ = some (.int .i64 ((rd_T36 l0_1 x7_2).f4)) ∧ w'.cell? (ad268.add ((x8_3).toNat * 5)) = some (.int .i64 ((rd_T36 l0_1 x8_3).f0)) ∧ w'.cell? ⟨(ad268.add ((x8_3).toNat * 5)).block, (ad268.add ((x8_3).toNat * 5)).off + 1, none⟩ = some (.int .i64 ((rd_T36 l0_1 x8_3).f1)) ∧ w'.cell? ⟨(ad268.add ((x8_3).toNat * 5)).block, (ad268.add ((x8_3).toNat * 5)).off + 2, none⟩ = some (.int .i64 ((rd_T36 l0_1 x8_3).f2)) ∧ w'.cell? ⟨(ad268.add ((x8_3).toNat * 5)).block, (ad268.add ((x8_3).toNat * 5)).off + 3, none⟩ = some (.int .i64 ((rd_T36 l0_1 x8_3).f3)) ∧ w'.cell? ⟨(ad268.add ((x8_3).toNat * 5)).block, (ad268.add ((x8_3).toNat * 5)).off + 4, none⟩ = some (.int .i64 ((rd_T36 l0_1 x8_3).f4))) (ds := []) z6_0 (by kernel_rfl) rfl rfl ⟨ct_ BK260.out 0, ct_ BK260.out 1, ((HB.out.cell (World.block_lt_of_cell? w _ hw268_0)).trans hw268_0), ((HB.out.cell (World.block_lt_of_cell? w _ hw268_1)).trans hw268_1), ((HB.out.cell (World.block_lt_of_cell? w _ hw268_2)).trans hw268_2), ((HB.out.cell (World.block_lt_of_cell? w _ hw268_3)).trans hw268_3), ((HB.out.cell (World.block_lt_of_cell? w _ hw268_4)).trans hw268_4), ((HB.out.cell (World.block_lt_of_cell? w _ hw269_0)).trans hw269_0), ((HB.out.cell (World.block_lt_of_cell? w _ hw269_1)).trans hw269_1), ((HB.out.cell (World.block_lt_of_cell? w _ hw269_2)).trans hw269_2), ((HB.out.cell (World.block_lt_of_cell? w _ hw269_3)).trans hw269_3), ((HB.out.cell (World.block_lt_of_cell? w _ hw269_4)).trans hw269_4)⟩ (fun hHeld => ?_); refine with_tabW spec_TurnNet.tab11 spec_TurnNet.bits11 (fun HT_ HW_ => ?_)
         generalize wr.drew = w66 at HO_266001 BK260 BK261 BK265 HB hx268_0 hx268_1 hx268_2 hx268_3 hx268_4 hx269_0 hx269_1 hx269_2 hx269_3 hx269_4 hHeld ⊢
         refine pu_ 0 49 z6_1 HT_.out ?_
         refine pu_ 2 51 z6_2 HT_.out ?_
         refine pu_ 6 55 z6_3 HT_.out ?_
         refine pu_ 8 57 z6_4 HT_.out ?_
         refine tk_ 1 50 z6_5 HT_.out HW_.out hHeld ?_
         refine pu_ 3 52 z6_6 HT_.out ?_
         refine pu_ 4 53 z6_7 HT_.out ?_
         refine tk_ 5 54 z6_8 HT_.out HW_.out hHeld ?_
         refine tk_ 7 56 z6_9 HT_.out HW_.out hHeld ?_
         refine pu_ 9 58 z6_10 HT_.out ?_
         refine pu_ 10 59 z6_11 HT_.out ?_
         refine tk_ 11 60 z6_12 HT_.out HW_.out hHeld ?_
         refine pu_ 12 61 z6_13 HT_.out ?_
         refine pu_ 13 62 z6_14 HT_.out ?_
         refine un_ 14 63 z6_15 HT_.out ?_
         refine un_ 15 64 z6_16 HT_.out ?_
         refine pu_ 16 65 z6_17 HT_.out ?_
         refine pu_ 17 66 z6_18 HT_.out ?_
         refine un_ 18 67 z6_19 HT_.out ?_
         refine un_ 19 68 z6_20 HT_.out ?_
         refine un_ 20 69 z6_21 HT_.out ?_
         refine pu_ 21 70 z6_22 HT_.out ?_
         refine done_ (done_of HT_.out (by kernel_rfl)) ?_
         try go_wp2
         go_roundg k3
         case measure => have := HJ2.out; have := HK2.out; have := HK3.out; omega
         case rel => exact ⟨(wrap64 (x8_3 + 1)), (x266001_3), (u266001), ns_, H', ⟨by have := HJ2.out; have := HK2.out; have := HK3.out; omega⟩, ⟨nr_ HO_266001.out⟩, ⟨nb_ BK260.out⟩, ⟨nb_ BK261.out⟩, ⟨nb_ BK265.out⟩, ⟨ne_ HB.out⟩⟩
        rw [if_pos c43] at H
        have c43b0 : (((rd_T36 l0_1 x7_2).f1) == ((rd_T36 l0_1 x8_3).f0)) = true := beq_iff_eq.mpr c43
        have c43b1 : (((rd_T36 l0_1 x7_2).f1) != ((rd_T36 l0_1 x8_3).f0)) = false := bne_eq_false_iff_eq.mpr c43
        clear c43
        by_cases c44 : t267 ≥ 0
        rotate_left
        ·rw [if_neg c44] at H
         have c44b0 : decide (0 ≤ t267) = false := decide_eq_false c44
         clear c44
         have H' := Aside0.mk H
         clear H
         have hnb59 := NB260_261.out
         have hnc59 := NB261_260.out
         have hnb60 := NB260_265.out
         have hnc60 := NB265_260.out
         obtain ⟨hcz61_0, hcz61_1, hfz61_0, hfz61_1⟩ := cz2_ BK260.out
         try go_wp2_with (first | ((with_reducible refine gate_callee (f := 21) rfl ?_); refine gl_ (some 48) Try.func21 #[.slice A1 l1.length c1, .int .i64 x7_2, .int .i64 x8_3] ?_; (with_reducible refine (spec_l4Cost.calls k3 _ _ l1 x7_2 x8_3 t267 _ ?side1 ?side2 A39.out).mono ?_); (case side1 => exact nc_ (Kd.C_below HR1.out HB.out)); (case side2 => exact HC1.out); rintro e w' ⟨rfl, ⟨nd, rfl⟩⟩; refine ⟨_, rfl, ?_⟩))
         (first | (rw [drewN_self wr]; generalize hq_ : World.drewN wr _ = wr; replace HO_266001 : Aside0 (Kd.R k36 36 wr w.heap.size (fun _ => True) u266001 x266001_3) := ⟨by rw [← hq_]; exact (nr_ HO_266001.out)⟩; replace BK260 : Aside0 (wr.heap[gb260]? = some (.cells #[.int .i64 a0_0, .slice A0_1 l0_1.length c0_1] 25 (0, 0))) := ⟨by rw [← hq_]; exact (nb_ BK260.out)⟩; replace BK261 : Aside0 (wr.heap[gb261]? = some (.cells #[.int .i64 0, .slice none 0 0] 25 (0, 0))) := ⟨by rw [← hq_]; exact (nb_ BK261.out)⟩; replace BK265 : Aside0 (wr.heap[gb265]? = some (.cells #[.int .i64 (l0_1.length : Int), u266001] 25 (0, 0))) := ⟨by rw [← hq_]; exact (nb_ BK265.out)⟩; replace HB : Aside0 (Below w.heap.size w wr) := ⟨by rw [← hq_]; exact (ne_ HB.out)⟩; clear hq_) | (have n0_ : Aside0 (Kd.R k36 36 wr w.heap.size (fun _ => True) u266001 x266001_3) := ⟨(nr_ HO_266001.out)⟩; have n1_ : Aside0 (wr.heap[gb260]? = some (.cells #[.int .i64 a0_0, .slice A0_1 l0_1.length c0_1] 25 (0, 0))) := ⟨(nb_ BK260.out)⟩; have n2_ : Aside0 (wr.heap[gb261]? = some (.cells #[.int .i64 0, .slice none 0 0] 25 (0, 0))) := ⟨(nb_ BK261.out)⟩; have n3_ : Aside0 (wr.heap[gb265]? = some (.cells #[.int .i64 (l0_1.length : Int), u266001] 25 (0, 0))) := ⟨(nb_ BK265.out)⟩; have n4_ : Aside0 (Below w.heap.size w wr) := ⟨(ne_ HB.out)⟩; clear HO_266001 BK260 BK261 BK265 HB; have HO_266001 := n0_; have BK260 := n1_; have BK261 := n2_; have BK265 := n3_; have HB := n4_; clear n0_ n1_ n2_ n3_ n4_))
         replace HO_266001 := Aside0.mk (Kd.R_drew HO_266001.out)
         replace BK260 := Aside0.mk (blk_drew BK260.out)
         replace BK261 := Aside0.mk (blk_drew BK261.out)
         replace BK265 := Aside0.mk (blk_drew BK265.out)
         replace HB := Aside0.mk (below_drew1 HB.out)
         have p268 : 0 ≤ (x7_2 : Int) := of_decide_eq_true nx_
         have q268 : x7_2 < (l0_1.length : Int) := of_decide_eq_true nx_
         obtain ⟨ad268, e268, hx268_0, hx268_1, hx268_2, hx268_3, hx268_4⟩ := at_T36 HR0_1.out x7_2 p268 q268
         have hw268_4 := hx268_4
         have hw268_3 := hx268_3
         have hw268_2 := hx268_2
         have hw268_1 := hx268_1
         have hw268_0 := hx268_0
         cases e268
         replace hx268_0 := hb_ HB.out hx268_0
         replace hx268_1 := hb_ HB.out hx268_1
         replace hx268_2 := hb_ HB.out hx268_2
         replace hx268_3 := hb_ HB.out hx268_3
         replace hx268_4 := hb_ HB.out hx268_4
         replace p268 := eq_true p268
         replace q268 := eq_true q268
         have p269 : 0 ≤ (x8_3 : Int) := of_decide_eq_true nx_
         have q269 : x8_3 < (l0_1.length : Int) := of_decide_eq_true nx_
         obtain ⟨ad269, e269, hx269_0, hx269_1, hx269_2, hx269_3, hx269_4⟩ := at_T36 HR0_1.out x8_3 p269 q269
         have hw269_4 := hx269_4
         have hw269_3 := hx269_3
         have hw269_2 := hx269_2
         have hw269_1 := hx269_1
         have hw269_0 := hx269_0
         obtain rfl : ad268 = ad269 := (by injection e269)
         replace hx269_0 := hb_ HB.out hx269_0
         replace hx269_1 := hb_ HB.out hx269_1
         replace hx269_2 := hb_ HB.out hx269_2
         replace hx269_3 := hb_ HB.out hx269_3
         replace hx269_4 := hb_ HB.out hx269_4
         replace p269 := eq_true p269
         replace q269 := eq_true q269
         refine start_ (n := 22) (S := fun w' => w'.cell? ⟨gb260, 0, none⟩ = some (.int .i64 a0_0) ∧ w'.cell? ⟨gb260, 1, none⟩ = some (.slice (some ad268) l0_1.length c0_1) ∧ w'.cell? (ad268.add ((x7_2).toNat * 5)) = some (.int .i64 ((rd_T36 l0_1 x7_2).f0)) ∧ w'.cell? ⟨(ad268.add ((x7_2).toNat * 5)).block, (ad268.add ((x7_2).toNat * 5)).off + 1, none⟩ = some (.int .i64 ((rd_T36 l0_1 x7_2).f1)) ∧ w'.cell? ⟨(ad268.add ((x7_2).toNat * 5)).block, (ad268.add ((x7_2).toNat * 5)).off + 2, none⟩ = some (.int .i64 ((rd_T36 l0_1 x7_2).f2)) ∧ w'.cell? ⟨(ad268.add ((x7_2).toNat * 5)).block, (ad268.add ((x7_2).toNat * 5)).off + 3, none⟩ = some (.int .i64 ((rd_T36 l0_1 x7_2).f3)) ∧ w'.cell? ⟨(ad268.add ((x7_2).toNat * 5)).block, (ad268.add ((x7_2).toNat * 5)).off + 4, none⟩ = some (.int .i64 ((rd_T36 l0_1 x7_2).f4)) ∧ w'.cell? (ad268.add ((x8_3).toNat * 5)) = some (.int .i64 ((rd_T36 l0_1 x8_3).f0)) ∧ w'.cell? ⟨(ad268.add ((x8_3).toNat * 5)).block, (ad268.add ((x8_3).toNat * 5)).off + 1, none⟩ = some (.int .i64 ((rd_T36 l0_1 x8_3).f1)) ∧ w'.cell? ⟨(ad268.add ((x8_3).toNat * 5)).block, (ad268.add ((x8_3).toNat * 5)).off + 2, none⟩ = some (.int .i64 ((rd_T36 l0_1 x8_3).f2)) ∧ w'.cell? ⟨(ad268.add ((x8_3).toNat * 5)).block, (ad268.add ((x8_3).toNat * 5)).off + 3, none⟩ = some (.int .i64 ((rd_T36 l0_1 x8_3).f3)) ∧ w'.cell? ⟨(ad268.add ((x8_3).toNat * 5)).block, (ad268.add ((x8_3).toNat * 5)).off + 4, none⟩ = some (.int .i64 ((rd_T36 l0_1 x8_3).f4))) (ds := []) z6_0 (by kernel_rfl) rfl rfl ⟨ct_ BK260.out 0, ct_ BK260.out 1, ((HB.out.cell (World.block_lt_of_cell? w _ hw268_0)).trans hw268_0), ((HB.out.cell (World.block_lt_of_cell? w _ hw268_1)).trans hw268_1), ((HB.out.cell (World.block_lt_of_cell? w _ hw268_2)).trans hw268_2), ((HB.out.cell (World.block_lt_of_cell? w _ hw268_3)).trans hw268_3), ((HB.out.cell (World.block_lt_of_cell? w _ hw268_4)).trans hw268_4), ((HB.out.cell (World.block_lt_of_cell? w _ hw269_0)).trans hw269_0), ((HB.out.cell (World.block_lt_of_cell? w _ hw269_1)).trans hw269_1), ((HB.out.cell (World.block_lt_of_cell? w _ hw269_2)).trans hw269_2), ((HB.out.cell (World.block_lt_of_cell? w _ hw269_3)).trans hw269_3), ((HB.out.cell (World.block_lt_of_cell? w _ hw269_4)).trans hw269_4)⟩ (fun hHeld => ?_); refine with_tabW spec_TurnNet.tab11 spec_TurnNet.bits11 (fun HT_ HW_ => ?_)
         generalize wr.drew = w62 at HO_266001 BK260 BK261 BK265 HB hx268_0 hx268_1 hx268_2 hx268_3 hx268_4 hx269_0 hx269_1 hx269_2 hx269_3 hx269_4 hHeld ⊢
         refine pu_ 0 49 z6_1 HT_.out ?_
         refine pu_ 2 51 z6_2 HT_.out ?_
         refine pu_ 6 55 z6_3 HT_.out ?_
         refine pu_ 8 57 z6_4 HT_.out ?_
         refine tk_ 1 50 z6_5 HT_.out HW_.out hHeld ?_
         refine pu_ 3 52 z6_6 HT_.out ?_
         refine pu_ 4 53 z6_7 HT_.out ?_
         refine tk_ 5 54 z6_8 HT_.out HW_.out hHeld ?_
         refine tk_ 7 56 z6_9 HT_.out HW_.out hHeld ?_
         refine pu_ 9 58 z6_10 HT_.out ?_
         refine pu_ 10 59 z6_11 HT_.out ?_
         refine tk_ 11 60 z6_12 HT_.out HW_.out hHeld ?_
         refine pu_ 12 61 z6_13 HT_.out ?_
         refine pu_ 13 62 z6_14 HT_.out ?_
         refine pu_ 14 63 z6_15 HT_.out ?_
         refine pu_ 15 64 z6_16 HT_.out ?_
         refine pu_ 16 65 z6_17 HT_.out ?_
         refine pu_ 17 66 z6_18 HT_.out ?_
         refine un_ 18 67 z6_19 HT_.out ?_
         refine un_ 19 68 z6_20 HT_.out ?_
         refine un_ 20 69 z6_21 HT_.out ?_
         refine pu_ 21 70 z6_22 HT_.out ?_
         refine done_ (done_of HT_.out (by kernel_rfl)) ?_
         try go_wp2
         go_roundg k3
         case measure => have := HJ2.out; have := HK2.out; have := HK3.out; omega
         case rel => exact ⟨(wrap64 (x8_3 + 1)), (x266001_3), (u266001), ns_, H', ⟨by have := HJ2.out; have := HK2.out; have := HK3.out; omega⟩, ⟨nr_ HO_266001.out⟩, ⟨nb_ BK260.out⟩, ⟨nb_ BK261.out⟩, ⟨nb_ BK265.out⟩, ⟨ne_ HB.out⟩⟩
        rw [if_pos c44] at H
        have c44b0 : decide (0 ≤ t267) = true := decide_eq_true c44
        clear c44
        by_cases c45 : x7_2 = x8_3
        ·rw [if_pos c45] at H
         have c45b0 : (x7_2 == x8_3) = true := beq_iff_eq.mpr c45
         have c45b1 : (x7_2 != x8_3) = false := bne_eq_false_iff_eq.mpr c45
         clear c45
         have H' := Aside0.mk H
         clear H
         have hnb46 := NB260_261.out
         have hnc46 := NB261_260.out
         have hnb47 := NB260_265.out
         have hnc47 := NB265_260.out
         obtain ⟨hcz48_0, hcz48_1, hfz48_0, hfz48_1⟩ := cz2_ BK260.out
         try go_wp2_with (first | ((with_reducible refine gate_callee (f := 21) rfl ?_); refine gl_ (some 48) Try.func21 #[.slice A1 l1.length c1, .int .i64 x7_2, .int .i64 x8_3] ?_; (with_reducible refine (spec_l4Cost.calls k3 _ _ l1 x7_2 x8_3 t267 _ ?side1 ?side2 A39.out).mono ?_); (case side1 => exact nc_ (Kd.C_below HR1.out HB.out)); (case side2 => exact HC1.out); rintro e w' ⟨rfl, ⟨nd, rfl⟩⟩; refine ⟨_, rfl, ?_⟩))
         (first | (rw [drewN_self wr]; generalize hq_ : World.drewN wr _ = wr; replace HO_266001 : Aside0 (Kd.R k36 36 wr w.heap.size (fun _ => True) u266001 x266001_3) := ⟨by rw [← hq_]; exact (nr_ HO_266001.out)⟩; replace BK260 : Aside0 (wr.heap[gb260]? = some (.cells #[.int .i64 a0_0, .slice A0_1 l0_1.length c0_1] 25 (0, 0))) := ⟨by rw [← hq_]; exact (nb_ BK260.out)⟩; replace BK261 : Aside0 (wr.heap[gb261]? = some (.cells #[.int .i64 0, .slice none 0 0] 25 (0, 0))) := ⟨by rw [← hq_]; exact (nb_ BK261.out)⟩; replace BK265 : Aside0 (wr.heap[gb265]? = some (.cells #[.int .i64 (l0_1.length : Int), u266001] 25 (0, 0))) := ⟨by rw [← hq_]; exact (nb_ BK265.out)⟩; replace HB : Aside0 (Below w.heap.size w wr) := ⟨by rw [← hq_]; exact (ne_ HB.out)⟩; clear hq_) | (have n0_ : Aside0 (Kd.R k36 36 wr w.heap.size (fun _ => True) u266001 x266001_3) := ⟨(nr_ HO_266001.out)⟩; have n1_ : Aside0 (wr.heap[gb260]? = some (.cells #[.int .i64 a0_0, .slice A0_1 l0_1.length c0_1] 25 (0, 0))) := ⟨(nb_ BK260.out)⟩; have n2_ : Aside0 (wr.heap[gb261]? = some (.cells #[.int .i64 0, .slice none 0 0] 25 (0, 0))) := ⟨(nb_ BK261.out)⟩; have n3_ : Aside0 (wr.heap[gb265]? = some (.cells #[.int .i64 (l0_1.length : Int), u266001] 25 (0, 0))) := ⟨(nb_ BK265.out)⟩; have n4_ : Aside0 (Below w.heap.size w wr) := ⟨(ne_ HB.out)⟩; clear HO_266001 BK260 BK261 BK265 HB; have HO_266001 := n0_; have BK260 := n1_; have BK261 := n2_; have BK265 := n3_; have HB := n4_; clear n0_ n1_ n2_ n3_ n4_))
         replace HO_266001 := Aside0.mk (Kd.R_drew HO_266001.out)
         replace BK260 := Aside0.mk (blk_drew BK260.out)
         replace BK261 := Aside0.mk (blk_drew BK261.out)
         replace BK265 := Aside0.mk (blk_drew BK265.out)
         replace HB := Aside0.mk (below_drew1 HB.out)
         have p268 : 0 ≤ (x7_2 : Int) := of_decide_eq_true nx_
         have q268 : x7_2 < (l0_1.length : Int) := of_decide_eq_true nx_
         obtain ⟨ad268, e268, hx268_0, hx268_1, hx268_2, hx268_3, hx268_4⟩ := at_T36 HR0_1.out x7_2 p268 q268
         have hw268_4 := hx268_4
         have hw268_3 := hx268_3
         have hw268_2 := hx268_2
         have hw268_1 := hx268_1
         have hw268_0 := hx268_0
         cases e268
         replace hx268_0 := hb_ HB.out hx268_0
         replace hx268_1 := hb_ HB.out hx268_1
         replace hx268_2 := hb_ HB.out hx268_2
         replace hx268_3 := hb_ HB.out hx268_3
         replace hx268_4 := hb_ HB.out hx268_4
         replace p268 := eq_true p268
         replace q268 := eq_true q268
         have p269 : 0 ≤ (x8_3 : Int) := of_decide_eq_true nx_
         have q269 : x8_3 < (l0_1.length : Int) := of_decide_eq_true nx_
         obtain ⟨ad269, e269, hx269_0, hx269_1, hx269_2, hx269_3, hx269_4⟩ := at_T36 HR0_1.out x8_3 p269 q269
         have hw269_4 := hx269_4
         have hw269_3 := hx269_3
         have hw269_2 := hx269_2
         have hw269_1 := hx269_1
         have hw269_0 := hx269_0
         obtain rfl : ad268 = ad269 := (by injection e269)
         replace hx269_0 := hb_ HB.out hx269_0
         replace hx269_1 := hb_ HB.out hx269_1
         replace hx269_2 := hb_ HB.out hx269_2
         replace hx269_3 := hb_ HB.out hx269_3
         replace hx269_4 := hb_ HB.out hx269_4
         replace p269 := eq_true p269
         replace q269 := eq_true q269
         refine start_ (n := 22) (S := fun w' => w'.cell? ⟨gb260, 0, none⟩ = some (.int .i64 a0_0) ∧ w'.cell? ⟨gb260, 1, none⟩ = some (.slice (some ad268) l0_1.length c0_1) ∧ w'.cell? (ad268.add ((x7_2).toNat * 5)) = some (.int .i64 ((rd_T36 l0_1 x7_2).f0)) ∧ w'.cell? ⟨(ad268.add ((x7_2).toNat * 5)).block, (ad268.add ((x7_2).toNat * 5)).off + 1, none⟩ = some (.int .i64 ((rd_T36 l0_1 x7_2).f1)) ∧ w'.cell? ⟨(ad268.add ((x7_2).toNat * 5)).block, (ad268.add ((x7_2).toNat * 5)).off + 2, none⟩ = some (.int .i64 ((rd_T36 l0_1 x7_2).f2)) ∧ w'.cell? ⟨(ad268.add ((x7_2).toNat * 5)).block, (ad268.add ((x7_2).toNat * 5)).off + 3, none⟩ = some (.int .i64 ((rd_T36 l0_1 x7_2).f3)) ∧ w'.cell? ⟨(ad268.add ((x7_2).toNat * 5)).block, (ad268.add ((x7_2).toNat * 5)).off + 4, none⟩ = some (.int .i64 ((rd_T36 l0_1 x7_2).f4)) ∧ w'.cell? (ad268.add ((x8_3).toNat * 5)) = some (.int .i64 ((rd_T36 l0_1 x8_3).f0)) ∧ w'.cell? ⟨(ad268.add ((x8_3).toNat * 5)).block, (ad268.add ((x8_3).toNat * 5)).off + 1, none⟩ = some (.int .i64 ((rd_T36 l0_1 x8_3).f1)) ∧ w'.cell? ⟨(ad268.add ((x8_3).toNat * 5)).block, (ad268.add ((x8_3).toNat * 5)).off + 2, none⟩ = some (.int .i64 ((rd_T36 l0_1 x8_3).f2)) ∧ w'.cell? ⟨(ad268.add ((x8_3).toNat * 5)).block, (ad268.add ((x8_3).toNat * 5)).off + 3, none⟩ = some (.int .i64 ((rd_T36 l0_1 x8_3).f3)) ∧ w'.cell? ⟨(ad268.add ((x8_3).toNat * 5)).block, (ad268.add ((x8_3).toNat * 5)).off + 4, none⟩ = some (.int .i64 ((rd_T36 l0_1 x8_3).f4))) (ds := []) z6_0 (by kernel_rfl) rfl rfl ⟨ct_ BK260.out 0, ct_ BK260.out 1, ((HB.out.cell (World.block_lt_of_cell? w _ hw268_0)).trans hw268_0), ((HB.out.cell (World.block_lt_of_cell? w _ hw268_1)).trans hw268_1), ((HB.out.cell (World.block_lt_of_cell? w _ hw268_2)).trans hw268_2), ((HB.out.cell (World.block_lt_of_cell? w _ hw268_3)).trans hw268_3), ((HB.out.cell (World.block_lt_of_cell? w _ hw268_4)).trans hw268_4), ((HB.out.cell (World.block_lt_of_cell? w _ hw269_0)).trans hw269_0), ((HB.out.cell (World.block_lt_of_cell? w _ hw269_1)).trans hw269_1), ((HB.out.cell (World.block_lt_of_cell? w _ hw269_2)).trans hw269_2), ((HB.out.cell (World.block_lt_of_cell? w _ hw269_3)).trans hw269_3), ((HB.out.cell (World.block_lt_of_cell? w _ hw269_4)).trans hw269_4)⟩ (fun hHeld => ?_); refine with_tabW spec_TurnNet.tab11 spec_TurnNet.bits11 (fun HT_ HW_ => ?_)
         generalize wr.drew = w49 at HO_266001 BK260 BK261 BK265 HB hx268_0 hx268_1 hx268_2 hx268_3 hx268_4 hx269_0 hx269_1 hx269_2 hx269_3 hx269_4 hHeld ⊢
         refine pu_ 0 49 z6_1 HT_.out ?_
         refine pu_ 2 51 z6_2 HT_.out ?_
         refine pu_ 6 55 z6_3 HT_.out ?_
         refine pu_ 8 57 z6_4 HT_.out ?_
         refine tk_ 1 50 z6_5 HT_.out HW_.out hHeld ?_
         refine pu_ 3 52 z6_6 HT_.out ?_
         refine pu_ 4 53 z6_7 HT_.out ?_
         refine tk_ 5 54 z6_8 HT_.out HW_.out hHeld ?_
         refine tk_ 7 56 z6_9 HT_.out HW_.out hHeld ?_
         refine pu_ 9 58 z6_10 HT_.out ?_
         refine pu_ 10 59 z6_11 HT_.out ?_
         refine tk_ 11 60 z6_12 HT_.out HW_.out hHeld ?_
         refine pu_ 12 61 z6_13 HT_.out ?_
         refine pu_ 13 62 z6_14 HT_.out ?_
         refine pu_ 14 63 z6_15 HT_.out ?_
         refine pu_ 15 64 z6_16 HT_.out ?_
         refine pu_ 16 65 z6_17 HT_.out ?_
         refine pu_ 17 66 z6_18 HT_.out ?_
         refine pu_ 18 67 z6_19 HT_.out ?_
         refine pu_ 19 68 z6_20 HT_.out ?_
         refine pu_ 20 69 z6_21 HT_.out ?_
         refine pu_ 21 70 z6_22 HT_.out ?_
         refine done_ (done_of HT_.out (by kernel_rfl)) ?_
         try go_wp2
         go_roundg k3
         case measure => have := HJ2.out; have := HK2.out; have := HK3.out; omega
         case rel => exact ⟨(wrap64 (x8_3 + 1)), (x266001_3), (u266001), ns_, H', ⟨by have := HJ2.out; have := HK2.out; have := HK3.out; omega⟩, ⟨nr_ HO_266001.out⟩, ⟨nb_ BK260.out⟩, ⟨nb_ BK261.out⟩, ⟨nb_ BK265.out⟩, ⟨ne_ HB.out⟩⟩
        rw [if_neg c45] at H
        have c45b0 : (x7_2 == x8_3) = false := beq_eq_false_iff_ne.mpr c45
        have c45b1 : (x7_2 != x8_3) = true := bne_iff_ne.mpr c45
        by_cases c50 : x266001_3.length < 3518437208883
        rotate_left
        ·rw [if_neg c50] at H
         exact absurd H (by simp)
        rw [if_pos c50] at H
        have LMc50 := Aside0.mk c50
        clear c50
        obtain ⟨y271, hy271⟩ : ∃ y_ : List (S36), y_ = (x266001_3 ++ [(⟨x7_2, x8_3, wrap64 (t267 + ((rd_T36 l0_1 x8_3).f2)), 0, 9⟩ : S36)]) := ⟨_, rfl⟩
        replace H : (spec_TurnNet.l1 k3 l1 x7_2 (wrap64 (x8_3 + 1)) a0_0 l0_1 (l0_1.length : Int) y271) = some (r1, r2, r3) := by first | (rw [hy271]; with_reducible exact H) | (have H2_ := (Option.bind_some _ _).symm.trans H; rw [hy271]; with_reducible exact H2_) | (have H2_ := (Option.bind_some _ _).symm.trans H; with_reducible exact H2_) | with_reducible exact H | (rw [hy271]; exact H) | exact H
        have Ny271 := Aside0.mk hy271
        clear hy271
        have H' := Aside0.mk H
        clear H
        have hnb51 := NB260_261.out
        have hnc51 := NB261_260.out
        have hnb52 := NB260_265.out
        have hnc52 := NB265_260.out
        obtain ⟨hcz53_0, hcz53_1, hfz53_0, hfz53_1⟩ := cz2_ BK260.out
        try go_wp2_with (first | ((with_reducible refine gate_callee (f := 21) rfl ?_); refine gl_ (some 48) Try.func21 #[.slice A1 l1.length c1, .int .i64 x7_2, .int .i64 x8_3] ?_; (with_reducible refine (spec_l4Cost.calls k3 _ _ l1 x7_2 x8_3 t267 _ ?side1 ?side2 A39.out).mono ?_); (case side1 => exact nc_ (Kd.C_below HR1.out HB.out)); (case side2 => exact HC1.out); rintro e w' ⟨rfl, ⟨nd, rfl⟩⟩; refine ⟨_, rfl, ?_⟩; (first | (rw [drewN_self wr]; generalize hq_ : World.drewN wr _ = wr; replace HO_266001 : Aside0 (Kd.R k36 36 wr w.heap.size (fun _ => True) u266001 x266001_3) := ⟨by rw [← hq_]; exact (nr_ HO_266001.out)⟩; replace BK260 : Aside0 (wr.heap[gb260]? = some (.cells #[.int .i64 a0_0, .slice A0_1 l0_1.length c0_1] 25 (0, 0))) := ⟨by rw [← hq_]; exact (nb_ BK260.out)⟩; replace BK261 : Aside0 (wr.heap[gb261]? = some (.cells #[.int .i64 0, .slice none 0 0] 25 (0, 0))) := ⟨by rw [← hq_]; exact (nb_ BK261.out)⟩; replace BK265 : Aside0 (wr.heap[gb265]? = some (.cells #[.int .i64 (l0_1.length : Int), u266001] 25 (0, 0))) := ⟨by rw [← hq_]; exact (nb_ BK265.out)⟩; replace HB : Aside0 (Below w.heap.size w wr) := ⟨by rw [← hq_]; exact (ne_ HB.out)⟩; clear hq_) | (have n0_ : Aside0 (Kd.R k36 36 wr w.heap.size (fun _ => True) u266001 x266001_3) := ⟨(nr_ HO_266001.out)⟩; have n1_ : Aside0 (wr.heap[gb260]? = some (.cells #[.int .i64 a0_0, .slice A0_1 l0_1.length c0_1] 25 (0, 0))) := ⟨(nb_ BK260.out)⟩; have n2_ : Aside0 (wr.heap[gb261]? = some (.cells #[.int .i64 0, .slice none 0 0] 25 (0, 0))) := ⟨(nb_ BK261.out)⟩; have n3_ : Aside0 (wr.heap[gb265]? = some (.cells #[.int .i64 (l0_1.length : Int), u266001] 25 (0, 0))) := ⟨(nb_ BK265.out)⟩; have n4_ : Aside0 (Below w.heap.size w wr) := ⟨(ne_ HB.out)⟩; clear HO_266001 BK260 BK261 BK265 HB; have HO_266001 := n0_; have BK260 := n1_; have BK261 := n2_; have BK265 := n3_; have HB := n4_; clear n0_ n1_ n2_ n3_ n4_))))
        replace HO_266001 := Aside0.mk (Kd.R_drew HO_266001.out)
        replace BK260 := Aside0.mk (blk_drew BK260.out)
        replace BK261 := Aside0.mk (blk_drew BK261.out)
        replace BK265 := Aside0.mk (blk_drew BK265.out)
        replace HB := Aside0.mk (below_drew1 HB.out)
        have p268 : 0 ≤ (x7_2 : Int) := of_decide_eq_true nx_
        have q268 : x7_2 < (l0_1.length : Int) := of_decide_eq_true nx_
        obtain ⟨ad268, e268, hx268_0, hx268_1, hx268_2, hx268_3, hx268_4⟩ := at_T36 HR0_1.out x7_2 p268 q268
        have hw268_4 := hx268_4
        have hw268_3 := hx268_3
        have hw268_2 := hx268_2
        have hw268_1 := hx268_1
        have hw268_0 := hx268_0
        cases e268
        replace hx268_0 := hb_ HB.out hx268_0
        replace hx268_1 := hb_ HB.out hx268_1
        replace hx268_2 := hb_ HB.out hx268_2
        replace hx268_3 := hb_ HB.out hx268_3
        replace hx268_4 := hb_ HB.out hx268_4
        replace p268 := eq_true p268
        replace q268 := eq_true q268
        have p269 : 0 ≤ (x8_3 : Int) := of_decide_eq_true nx_
        have q269 : x8_3 < (l0_1.length : Int) := of_decide_eq_true nx_
        obtain ⟨ad269, e269, hx269_0, hx269_1, hx269_2, hx269_3, hx269_4⟩ := at_T36 HR0_1.out x8_3 p269 q269
        have hw269_4 := hx269_4
        have hw269_3 := hx269_3
        have hw269_2 := hx269_2
        have hw269_1 := hx269_1
        have hw269_0 := hx269_0
        obtain rfl : ad268 = ad269 := (by injection e269)
        replace hx269_0 := hb_ HB.out hx269_0
        replace hx269_1 := hb_ HB.out hx269_1
        replace hx269_2 := hb_ HB.out hx269_2
        replace hx269_3 := hb_ HB.out hx269_3
        replace hx269_4 := hb_ HB.out hx269_4
        replace p269 := eq_true p269
        replace q269 := eq_true q269
        refine start_ (n := 22) (S := fun w' => w'.cell? ⟨gb260, 0, none⟩ = some (.int .i64 a0_0) ∧ w'.cell? ⟨gb260, 1, none⟩ = some (.slice (some ad268) l0_1.length c0_1) ∧ w'.cell? (ad268.add ((x7_2).toNat * 5)) = some (.int .i64 ((rd_T36 l0_1 x7_2).f0)) ∧ w'.cell? ⟨(ad268.add ((x7_2).toNat * 5)).block, (ad268.add ((x7_2).toNat * 5)).off + 1, none⟩ = some (.int .i64 ((rd_T36 l0_1 x7_2).f1)) ∧ w'.cell? ⟨(ad268.add ((x7_2).toNat * 5)).block, (ad268.add ((x7_2).toNat * 5)).off + 2, none⟩ = some (.int .i64 ((rd_T36 l0_1 x7_2).f2)) ∧ w'.cell? ⟨(ad268.add ((x7_2).toNat * 5)).block, (ad268.add ((x7_2).toNat * 5)).off + 3, none⟩ = some (.int .i64 ((rd_T36 l0_1 x7_2).f3)) ∧ w'.cell? ⟨(ad268.add ((x7_2).toNat * 5)).block, (ad268.add ((x7_2).toNat * 5)).off + 4, none⟩ = some (.int .i64 ((rd_T36 l0_1 x7_2).f4)) ∧ w'.cell? (ad268.add ((x8_3).toNat * 5)) = some (.int .i64 ((rd_T36 l0_1 x8_3).f0)) ∧ w'.cell? ⟨(ad268.add ((x8_3).toNat * 5)).block, (ad268.add ((x8_3).toNat * 5)).off + 1, none⟩ = some (.int .i64 ((rd_T36 l0_1 x8_3).f1)) ∧ w'.cell? ⟨(ad268.add ((x8_3).toNat * 5)).block, (ad268.add ((x8_3).toNat * 5)).off + 2, none⟩ = some (.int .i64 ((rd_T36 l0_1 x8_3).f2)) ∧ w'.cell? ⟨(ad268.add ((x8_3).toNat * 5)).block, (ad268.add ((x8_3).toNat * 5)).off + 3, none⟩ = some (.int .i64 ((rd_T36 l0_1 x8_3).f3)) ∧ w'.cell? ⟨(ad268.add ((x8_3).toNat * 5)).block, (ad268.add ((x8_3).toNat * 5)).off + 4, none⟩ = some (.int .i64 ((rd_T36 l0_1 x8_3).f4))) (ds := []) z6_0 (by kernel_rfl) rfl rfl ⟨ct_ BK260.out 0, ct_ BK260.out 1, ((HB.out.cell (World.block_lt_of_cell? w _ hw268_0)).trans hw268_0), ((HB.out.cell (World.block_lt_of_cell? w _ hw268_1)).trans hw268_1), ((HB.out.cell (World.block_lt_of_cell? w _ hw268_2)).trans hw268_2), ((HB.out.cell (World.block_lt_of_cell? w _ hw268_3)).trans hw268_3), ((HB.out.cell (World.block_lt_of_cell? w _ hw268_4)).trans hw268_4), ((HB.out.cell (World.block_lt_of_cell? w _ hw269_0)).trans hw269_0), ((HB.out.cell (World.block_lt_of_cell? w _ hw269_1)).trans hw269_1), ((HB.out.cell (World.block_lt_of_cell? w _ hw269_2)).trans hw269_2), ((HB.out.cell (World.block_lt_of_cell? w _ hw269_3)).trans hw269_3), ((HB.out.cell (World.block_lt_of_cell? w _ hw269_4)).trans hw269_4)⟩ (fun hHeld => ?_); refine with_tabW spec_TurnNet.tab11 spec_TurnNet.bits11 (fun HT_ HW_ => ?_)
        generalize wr.drew = w54 at HO_266001 BK260 BK261 BK265 HB hx268_0 hx268_1 hx268_2 hx268_3 hx268_4 hx269_0 hx269_1 hx269_2 hx269_3 hx269_4 hHeld ⊢
        refine pu_ 0 49 z6_1 HT_.out ?_
        refine pu_ 2 51 z6_2 HT_.out ?_
        refine pu_ 6 55 z6_3 HT_.out ?_
        refine pu_ 8 57 z6_4 HT_.out ?_
        refine tk_ 1 50 z6_5 HT_.out HW_.out hHeld ?_
        refine pu_ 3 52 z6_6 HT_.out ?_
        refine pu_ 4 53 z6_7 HT_.out ?_
        refine tk_ 5 54 z6_8 HT_.out HW_.out hHeld ?_
        refine tk_ 7 56 z6_9 HT_.out HW_.out hHeld ?_
        refine pu_ 9 58 z6_10 HT_.out ?_
        refine pu_ 10 59 z6_11 HT_.out ?_
        refine tk_ 11 60 z6_12 HT_.out HW_.out hHeld ?_
        refine pu_ 12 61 z6_13 HT_.out ?_
        refine pu_ 13 62 z6_14 HT_.out ?_
        refine pu_ 14 63 z6_15 HT_.out ?_
        refine pu_ 15 64 z6_16 HT_.out ?_
        refine pu_ 16 65 z6_17 HT_.out ?_
        refine pu_ 17 66 z6_18 HT_.out ?_
        refine pu_ 18 67 z6_19 HT_.out ?_
        refine pu_ 19 68 z6_20 HT_.out ?_
        refine pu_ 20 69 z6_21 HT_.out ?_
        refine pu_ 21 70 z6_22 HT_.out ?_
        refine done_ (done_of HT_.out (by kernel_rfl)) ?_
        try go_wp2
        replace HO_266001 := Aside0.mk (Kd.R_drew HO_266001.out)
        replace BK260 := Aside0.mk (blk_drew BK260.out)
        replace BK261 := Aside0.mk (blk_drew BK261.out)
        replace BK265 := Aside0.mk (blk_drew BK265.out)
        replace HB := Aside0.mk (below_drew1 HB.out)
        have p270 : 0 ≤ (x8_3 : Int) := of_decide_eq_true nx_
        have q270 : x8_3 < (l0_1.length : Int) := of_decide_eq_true nx_
        obtain ⟨ad270, e270, hx270_0, hx270_1, hx270_2, hx270_3, hx270_4⟩ := at_T36 HR0_1.out x8_3 p270 q270
        have hw270_4 := hx270_4
        have hw270_3 := hx270_3
        have hw270_2 := hx270_2
        have hw270_1 := hx270_1
        have hw270_0 := hx270_0
        obtain rfl : ad268 = ad270 := (by injection e270)
        replace hx270_0 := hb_ HB.out hx270_0
        replace hx270_1 := hb_ HB.out hx270_1
        replace hx270_2 := hb_ HB.out hx270_2
        replace hx270_3 := hb_ HB.out hx270_3
        replace hx270_4 := hb_ HB.out hx270_4
        replace p270 := eq_true p270
        replace q270 := eq_true q270
        refine start_ (n := 17) (S := fun w' => w'.cell? ⟨gb265, 0, none⟩ = some (.int .i64 (l0_1.length : Int)) ∧ w'.cell? ⟨gb265, 1, none⟩ = some (u266001) ∧ w'.cell? ⟨gb260, 0, none⟩ = some (.int .i64 a0_0) ∧ w'.cell? ⟨gb260, 1, none⟩ = some (.slice (some ad268) l0_1.length c0_1) ∧ w'.cell? (ad268.add ((x8_3).toNat * 5)) = some (.int .i64 ((rd_T36 l0_1 x8_3).f0)) ∧ w'.cell? ⟨(ad268.add ((x8_3).toNat * 5)).block, (ad268.add ((x8_3).toNat * 5)).off + 1, none⟩ = some (.int .i64 ((rd_T36 l0_1 x8_3).f1)) ∧ w'.cell? ⟨(ad268.add ((x8_3).toNat * 5)).block, (ad268.add ((x8_3).toNat * 5)).off + 2, none⟩ = some (.int .i64 ((rd_T36 l0_1 x8_3).f2)) ∧ w'.cell? ⟨(ad268.add ((x8_3).toNat * 5)).block, (ad268.add ((x8_3).toNat * 5)).off + 3, none⟩ = some (.int .i64 ((rd_T36 l0_1 x8_3).f3)) ∧ w'.cell? ⟨(ad268.add ((x8_3).toNat * 5)).block, (ad268.add ((x8_3).toNat * 5)).off + 4, none⟩ = some (.int .i64 ((rd_T36 l0_1 x8_3).f4))) (ds := [16]) (bm_ 17 0) (by kernel_rfl) rfl rfl ⟨ct_ BK265.out 0, ct_ BK265.out 1, ct_ BK260.out 0, ct_ BK260.out 1, ((HB.out.cell (World.block_lt_of_cell? w _ hw270_0)).trans hw270_0), ((HB.out.cell (World.block_lt_of_cell? w _ hw270_1)).trans hw270_1), ((HB.out.cell (World.block_lt_of_cell? w _ hw270_2)).trans hw270_2), ((HB.out.cell (World.block_lt_of_cell? w _ hw270_3)).trans hw270_3), ((HB.out.cell (World.block_lt_of_cell? w _ hw270_4)).trans hw270_4)⟩ (fun hHeld => ?_); refine with_tabW spec_TurnNet.tab12 spec_TurnNet.bits12 (fun HT_ HW_ => ?_)
        generalize w54.drew = w55 at HO_266001 BK260 BK261 BK265 HB hx270_0 hx270_1 hx270_2 hx270_3 hx270_4 hHeld ⊢
        refine pu_ 0 71 (bm_ 17 1) HT_.out ?_
        refine pu_ 2 73 (bm_ 17 5) HT_.out ?_
        refine pu_ 3 74 (bm_ 17 13) HT_.out ?_
        refine pu_ 4 75 (bm_ 17 29) HT_.out ?_
        refine pu_ 5 76 (bm_ 17 61) HT_.out ?_
        refine pu_ 7 78 (bm_ 17 189) HT_.out ?_
        refine tk_ 1 72 (bm_ 17 191) HT_.out HW_.out hHeld ?_
        refine tk_ 6 77 (bm_ 17 255) HT_.out HW_.out hHeld ?_
        refine pu_ 8 79 (bm_ 17 511) HT_.out ?_
        refine pu_ 9 80 (bm_ 17 1023) HT_.out ?_
        refine tk_ 10 81 (bm_ 17 2047) HT_.out HW_.out hHeld ?_
        refine pu_ 11 82 (bm_ 17 4095) HT_.out ?_
        refine pu_ 12 83 (bm_ 17 8191) HT_.out ?_
        refine one_ (i := 13) (N := some 84) (bm_ 17 16383) rfl rfl (one_of HT_.out (by kernel_rfl)) (by decide) (fun K hK => ?_)
        refine value_ (w1 := ?_) (v := ?_) (by rfl) rfl ?_ ?_
        rotate_left 2
        ·go_simp
         constructor
         ·rfl
         ·rfl
        refine hK.out _ _ ⟨(blk_cell (blk_alloc BK265.out _) 0).trans rfl, (blk_cell (blk_alloc BK265.out _) 1).trans rfl, (blk_cell (blk_alloc BK260.out _) 0).trans rfl, (blk_cell (blk_alloc BK260.out _) 1).trans rfl, (World.cell?_alloc_lt _ _ _ (World.block_lt_of_cell? _ _ (((HB.out.cell (World.block_lt_of_cell? w _ hw270_0)).trans hw270_0)))).trans (((HB.out.cell (World.block_lt_of_cell? w _ hw270_0)).trans hw270_0)), (World.cell?_alloc_lt _ _ _ (World.block_lt_of_cell? _ _ (((HB.out.cell (World.block_lt_of_cell? w _ hw270_1)).trans hw270_1)))).trans (((HB.out.cell (World.block_lt_of_cell? w _ hw270_1)).trans hw270_1)), (World.cell?_alloc_lt _ _ _ (World.block_lt_of_cell? _ _ (((HB.out.cell (World.block_lt_of_cell? w _ hw270_2)).trans hw270_2)))).trans (((HB.out.cell (World.block_lt_of_cell? w _ hw270_2)).trans hw270_2)), (World.cell?_alloc_lt _ _ _ (World.block_lt_of_cell? _ _ (((HB.out.cell (World.block_lt_of_cell? w _ hw270_3)).trans hw270_3)))).trans (((HB.out.cell (World.block_lt_of_cell? w _ hw270_3)).trans hw270_3)), (World.cell?_alloc_lt _ _ _ (World.block_lt_of_cell? _ _ (((HB.out.cell (World.block_lt_of_cell? w _ hw270_4)).trans hw270_4)))).trans (((HB.out.cell (World.block_lt_of_cell? w _ hw270_4)).trans hw270_4))⟩ (fun hHeld => ?_)
        clear hK K
        refine nm1_ (some 84) ?_
        refine one_ (i := 14) (N := some 85) (bm_ 17 32767) rfl rfl (one_of HT_.out (by kernel_rfl)) (by decide) (fun K hK => ?_)
        refine Kd.R_append_step k36 (w0 := w) w.heap.size (by rfl) (.tmp 72) (.tmp 84) 23 36 (.agg #[(.int .i64 0), (.int .i64 0), (.int .i64 0), (.int .i64 0), (.int .i64 0)]) 40 rfl Try.underlying23 info36 rfl (by decide) (by omega) u266001 x266001_3 (⟨x7_2, x8_3, wrap64 (t267 + ((rd_T36 l0_1 x8_3).f2)), 0, 9⟩ : S36) [.int .i64 x7_2, .int .i64 x8_3, .int .i64 (wrap64 (t267 + ((rd_T36 l0_1 x8_3).f2))), .int .i64 0, .int .i64 9] (fun _ => True) (fun _ => False) rfl rfl ?aP (fun _ hk => hk.elim) ?aF ?aO ?aB ?aS ?aL ?_
        (case aP => exact k36_mkM _ _ _ (⟨x7_2, x8_3, wrap64 (t267 + ((rd_T36 l0_1 x8_3).f2)), 0, 9⟩ : S36))
        (case aB => exact (ne_ HB.out))
        (case aF => exact (fun _ _ => trivial))
        (case aO => exact (nr_ HO_266001.out))
        (case aS => exact (below_size (ne_ HB.out)))
        (case aL => have := LMc50.out; omega)
        intro v272 w56 ho hb hg hat
        rw [← Ny271.out] at ho
        replace BK260 := Aside0.mk (blk_grown (g := gb260) (o := .cells #[.int .i64 a0_0, .slice (some ad268) l0_1.length c0_1] 25 (0, 0)) (nb_ BK260.out) hg (Kd.R_ne HO_266001.out BK260.out (by decide)))
        replace BK261 := Aside0.mk (blk_grown (g := gb261) (o := .cells #[.int .i64 0, .slice none 0 0] 25 (0, 0)) (nb_ BK261.out) hg (Kd.R_ne HO_266001.out BK261.out (by decide)))
        replace BK265 := Aside0.mk (blk_grown (g := gb265) (o := .cells #[.int .i64 (l0_1.length : Int), u266001] 25 (0, 0)) (nb_ BK265.out) hg (Kd.R_ne HO_266001.out BK265.out (by decide)))
        replace HB := Aside0.mk (hb)
        have HO273 := Aside0.mk (ho)
        clear HO_266001 ho hb hg hat
        obtain ⟨Ao57, co57, eo57⟩ := Kd.R_slice HO273.out
        (first | subst eo57 | (injection eo57 with f1_ f2_ f3_; have f4_ := f1_.symm; have f5_ := f3_.symm; clear f1_ f2_ f3_; subst f4_; subst f5_))
        refine hK.out _ _ ⟨ct_ BK265.out 0, ct_ BK265.out 1, ct_ BK260.out 0, ct_ BK260.out 1, ((HB.out.cell (World.block_lt_of_cell? w _ hw270_0)).trans hw270_0), ((HB.out.cell (World.block_lt_of_cell? w _ hw270_1)).trans hw270_1), ((HB.out.cell (World.block_lt_of_cell? w _ hw270_2)).trans hw270_2), ((HB.out.cell (World.block_lt_of_cell? w _ hw270_3)).trans hw270_3), ((HB.out.cell (World.block_lt_of_cell? w _ hw270_4)).trans hw270_4)⟩ (fun hHeld => ?_)
        clear hK K
        refine nm1_ (some 85) ?_
        refine pu_ 15 86 (bm_ 17 65535) HT_.out ?_
        refine last_ (i := 16) (N := none) (bm_ 17 131071) rfl rfl (one_of HT_.out (by kernel_rfl)) (by decide) (fun K hK => ?_)
        have hs58 : w56.cell? ⟨gb265, 1, none⟩ = some (u266001) := ct_ BK265.out 1
        have hfs58 := blk_frozen BK265.out 1
        have hns58_0 := NB260_265.out
        have hns58_1 := NB261_265.out
        have hms58_0 := NB265_260.out
        have hms58_1 := NB265_261.out
        refine skip_ (w1 := ?_) (by rfl) rfl ?_ ?_
        rotate_left
        ·go_simp
         rfl
        refine hK.out _ _ ?_
        clear hK K
        refine done_ (done_of HT_.out (by kernel_rfl)) ?_
        try go_wp2
        go_roundg k3
        case measure => have := HJ2.out; have := HK2.out; have := HK3.out; omega
        case rel => exact ⟨(wrap64 (x8_3 + 1)), (y271), (.slice Ao57 y271.length co57), ns_, H', ⟨by have := HJ2.out; have := HK2.out; have := HK3.out; omega⟩, ⟨by (with_reducible repeat (first | apply Kd.R_alloc | apply Kd.R_drewN | apply Kd.R_drew)); exact Kd.R_mono (Kd.R_far (p := ⟨gb265, 1, none⟩) (Kd.R_types HO273.out BK265.out (by decide)) (fun _ hk => hk.2) (.slice Ao57 y271.length co57)) (fun _ hk => trivial)⟩, ⟨np_ BK260.out⟩, ⟨np_ BK261.out⟩, ⟨np_ BK265.out⟩, ⟨ne_ HB.out⟩⟩
end Go.Proofs.Ytfijdkjibjdbiaa.Print
