-- Made by this session's own program (wip/patch_print.py, over the kit's print). Lean checks it.
import Derived.Test.YtgnnimhhkbbfiaaPrint0
import Derived.Test.YtgnnimhhkbbfiaaPrintF31
import Derived.Test.YtgnnimhhkbbfiaaPrintF32
namespace Go.Proofs.Ytgnnimhhkbbfiaa.Print
open Go.RowKit Go.Proofs.YtgnnimhhkbbfiaaW.PrintWords Go.Proofs.YtgnnimhhkbbfiaaW.PrintLast Go.Proofs.YtgnnimhhkbbfiaaW.PrintMore Go.Proofs.YtgnnimhhkbbfiaaX
attribute [local go_sem] max2_int min2_int max_two min_two max_three min_three max_four min_four   -- for this text's walks alone
set_option linter.unusedVariables false
set_option linter.unusedSimpArgs false

abbrev z33_0 := bm_ 36 0
abbrev z33_1 := bm_ 36 1
abbrev z33_2 := bm_ 36 3
abbrev z33_3 := bm_ 36 7
abbrev z33_4 := bm_ 36 15
abbrev z33_5 := bm_ 36 31
abbrev z33_6 := bm_ 36 63
abbrev z33_7 := bm_ 36 127
abbrev z33_8 := bm_ 36 255
abbrev z33_9 := bm_ 36 511
abbrev z33_10 := bm_ 36 4607
abbrev z33_11 := bm_ 36 20991
abbrev z33_12 := bm_ 36 53759
abbrev z33_13 := bm_ 36 54271
abbrev z33_14 := bm_ 36 55295
abbrev z33_15 := bm_ 36 57343
abbrev z33_16 := bm_ 36 65535
abbrev z33_17 := bm_ 36 131071
abbrev z33_18 := bm_ 36 262143
abbrev z33_19 := bm_ 36 524287
abbrev z33_20 := bm_ 36 1048575
abbrev z33_21 := bm_ 36 2097151
abbrev z33_22 := bm_ 36 4194303
abbrev z33_23 := bm_ 36 8388607
abbrev z33_24 := bm_ 36 16777215
abbrev z33_25 := bm_ 36 33554431
abbrev z33_26 := bm_ 36 570425343
abbrev z33_27 := bm_ 36 1644167167
abbrev z33_28 := bm_ 36 1677721599
abbrev z33_29 := bm_ 36 1744830463
abbrev z33_30 := bm_ 36 1879048191
abbrev z33_31 := bm_ 36 2147483647
abbrev z33_32 := bm_ 36 4294967295
abbrev z33_33 := bm_ 36 8589934591
abbrev z33_34 := bm_ 36 17179869183
abbrev z33_35 := bm_ 36 34359738367
abbrev z33_36 := bm_ 36 68719476735
abbrev z33_37 := bm_ 36 67108863
abbrev z33_38 := bm_ 36 134217727
abbrev z33_39 := bm_ 36 268435455
abbrev z33_40 := bm_ 36 536870911
abbrev z33_41 := bm_ 36 1073741823
/-! ### spec_l3Steps: function 33 -/
mutual
def spec_l3Steps.l0 : Nat → Int → List Int → List Int → Int → Int → List (S47) → Option (List Int)
  | 0, _, _, _, _, _, _ => none
  | k + 1, x1, x5, x6, x7, x270000, x270001 => if x7 < x270000 then (if 0 ≤ x7 then (if x7 < (x6.length : Int) then (spec_l3Steps.l0 k x1 x5 (x6.set (x7 : Int).toNat 99999) (wrap64 (x7 + 1)) x270000 x270001) else (none)) else (none)) else (if 0 ≤ x1 then (if x1 < (x6.length : Int) then (spec_l3Steps.l1 k x5 (x6.set (x1 : Int).toNat 0) 0 x270000 x270001) else (none)) else (none))
def spec_l3Steps.l1 : Nat → List Int → List Int → Int → Int → List (S47) → Option (List Int)
  | 0, _, _, _, _, _ => none
  | k + 1, x5, x6, x8, x270000, x270001 => if x8 < x270000 then (spec_l3Steps.l2 k x5 x6 x8 0 x270000 x270001) else (some x6)
def spec_l3Steps.l2 : Nat → List Int → List Int → Int → Int → Int → List (S47) → Option (List Int)
  | 0, _, _, _, _, _, _ => none
  | k + 1, x5, x6, x8, x9, x270000, x270001 => if x9 < (x270001.length : Int) then (if 0 ≤ x9 then (if 0 ≤ ((rd_T47 x270001 x9).f1) then (if ((rd_T47 x270001 x9).f1) < (x5.length : Int) then (if (rd x5 ((rd_T47 x270001 x9).f1)) < 99999 then (if 0 ≤ ((rd_T47 x270001 x9).f0) then (if ((rd_T47 x270001 x9).f0) < (x5.length : Int) then (if (rd x5 ((rd_T47 x270001 x9).f0)) = (wrap64 (((rd_T47 x270001 x9).f2) + (rd x5 ((rd_T47 x270001 x9).f1)))) then (if ((rd_T47 x270001 x9).f1) < (x6.length : Int) then (if ((rd_T47 x270001 x9).f0) < (x6.length : Int) then (if (wrap64 ((rd x6 ((rd_T47 x270001 x9).f1)) + 1)) < (rd x6 ((rd_T47 x270001 x9).f0)) then (spec_l3Steps.l2 k x5 (x6.set (((rd_T47 x270001 x9).f0) : Int).toNat (wrap64 ((rd x6 ((rd_T47 x270001 x9).f1)) + 1))) x8 (wrap64 (x9 + 1)) x270000 x270001) else (spec_l3Steps.l2 k x5 x6 x8 (wrap64 (x9 + 1)) x270000 x270001)) else (none)) else (none)) else (spec_l3Steps.l2 k x5 x6 x8 (wrap64 (x9 + 1)) x270000 x270001)) else (none)) else (none)) else (spec_l3Steps.l2 k x5 x6 x8 (wrap64 (x9 + 1)) x270000 x270001)) else (none)) else (none)) else (none)) else (spec_l3Steps.l1 k x5 x6 (wrap64 (x8 + 1)) x270000 x270001)
end
def spec_l3Steps.f (k : Nat) (a0_0 : Int) (l0_1 : List (S47)) (a1 : Int) : Option (List Int) := (spec_l1Back.f k a0_0 l0_1).bind fun bt270 => ((spec_l3All.f k bt270.1 bt270.2 a1).bind fun t274 => (if 0 ≤ a0_0 then (if (a0_0 : Int).toNat ≤ 35184372088832 then (spec_l3Steps.l0 k a1 t274 (List.replicate (a0_0 : Int).toNat 0) 0 a0_0 l0_1) else (none)) else (none)))
theorem spec_l3Steps.mono_l : ∀ k, (∀ y0 y1 y2 y3 y4 y5, LeO (spec_l3Steps.l0 k y0 y1 y2 y3 y4 y5) (spec_l3Steps.l0 (k + 1) y0 y1 y2 y3 y4 y5)) ∧ (∀ y0 y1 y2 y3 y4, LeO (spec_l3Steps.l1 k y0 y1 y2 y3 y4) (spec_l3Steps.l1 (k + 1) y0 y1 y2 y3 y4)) ∧ (∀ y0 y1 y2 y3 y4 y5, LeO (spec_l3Steps.l2 k y0 y1 y2 y3 y4 y5) (spec_l3Steps.l2 (k + 1) y0 y1 y2 y3 y4 y5))
  | 0 => ⟨fun _ _ _ _ _ _ r h => by simp [spec_l3Steps.l0] at h, fun _ _ _ _ _ r h => by simp [spec_l3Steps.l1] at h, fun _ _ _ _ _ _ r h => by simp [spec_l3Steps.l2] at h⟩
  | k + 1 => by
    obtain ⟨ih0, ih1, ih2⟩ := spec_l3Steps.mono_l k
    refine ⟨?_, ?_, ?_⟩
    · intro y0 y1 y2 y3 y4 y5
      unfold spec_l3Steps.l0
      repeat' first | (with_reducible first | exact ih0 _ _ _ _ _ _ | exact ih1 _ _ _ _ _ | exact ih2 _ _ _ _ _ _ | exact spec_l1Back.mono _ _ _ | exact spec_l3All.mono _ _ _ _ | exact LeO.refl _ | exact LeO.none _ | refine LeO.ite ?_ ?_ | refine LeO.bind ?_ (fun _ => ?_)) | exact ih0 _ _ _ _ _ _ | exact ih1 _ _ _ _ _ | exact ih2 _ _ _ _ _ _ | exact spec_l1Back.mono _ _ _ | exact spec_l3All.mono _ _ _ _ | exact LeO.none _ | refine LeO.ite ?_ ?_ | refine LeO.bind ?_ (fun _ => ?_)
    · intro y0 y1 y2 y3 y4
      unfold spec_l3Steps.l1
      repeat' first | (with_reducible first | exact ih0 _ _ _ _ _ _ | exact ih1 _ _ _ _ _ | exact ih2 _ _ _ _ _ _ | exact spec_l1Back.mono _ _ _ | exact spec_l3All.mono _ _ _ _ | exact LeO.refl _ | exact LeO.none _ | refine LeO.ite ?_ ?_ | refine LeO.bind ?_ (fun _ => ?_)) | exact ih0 _ _ _ _ _ _ | exact ih1 _ _ _ _ _ | exact ih2 _ _ _ _ _ _ | exact spec_l1Back.mono _ _ _ | exact spec_l3All.mono _ _ _ _ | exact LeO.none _ | refine LeO.ite ?_ ?_ | refine LeO.bind ?_ (fun _ => ?_)
    · intro y0 y1 y2 y3 y4 y5
      unfold spec_l3Steps.l2
      repeat' first | (with_reducible first | exact ih0 _ _ _ _ _ _ | exact ih1 _ _ _ _ _ | exact ih2 _ _ _ _ _ _ | exact spec_l1Back.mono _ _ _ | exact spec_l3All.mono _ _ _ _ | exact LeO.refl _ | exact LeO.none _ | refine LeO.ite ?_ ?_ | refine LeO.bind ?_ (fun _ => ?_)) | exact ih0 _ _ _ _ _ _ | exact ih1 _ _ _ _ _ | exact ih2 _ _ _ _ _ _ | exact spec_l1Back.mono _ _ _ | exact spec_l3All.mono _ _ _ _ | exact LeO.none _ | refine LeO.ite ?_ ?_ | refine LeO.bind ?_ (fun _ => ?_)
theorem spec_l3Steps.mono : ∀ a0 a1 a2 k, LeO (spec_l3Steps.f k a0 a1 a2) (spec_l3Steps.f (k + 1) a0 a1 a2) := by
  intro a0 a1 a2 k
  obtain ⟨ih0, ih1, ih2⟩ := spec_l3Steps.mono_l k
  unfold spec_l3Steps.f
  repeat' first | (with_reducible first | exact ih0 _ _ _ _ _ _ | exact ih1 _ _ _ _ _ | exact ih2 _ _ _ _ _ _ | exact spec_l1Back.mono _ _ _ | exact spec_l3All.mono _ _ _ _ | exact LeO.refl _ | exact LeO.none _ | refine LeO.ite ?_ ?_ | refine LeO.bind ?_ (fun _ => ?_)) | exact ih0 _ _ _ _ _ _ | exact ih1 _ _ _ _ _ | exact ih2 _ _ _ _ _ _ | exact spec_l1Back.mono _ _ _ | exact spec_l3All.mono _ _ _ _ | exact LeO.none _ | refine LeO.ite ?_ ?_ | refine LeO.bind ?_ (fun _ => ?_)
def spec_l3Steps.T15 : Bool × List (List Nat × List Nat) := (true, [([], []), ([], []), ([1], [1]), ([0, 2], [0, 2]), ([3], [3]), ([4], [4]), ([5], [5]), ([6], [6]), ([6], [6]), ([8, 6], [6, 8]), ([7, 9, 6], [6, 7, 9]), ([10, 6], [6, 10]), ([6], [6]), ([12, 6], [6, 12]), ([6], [6]), ([6], [6]), ([15, 6], [6, 15]), ([14, 16, 6], [6, 14, 16]), ([17, 6], [6, 17]), ([13, 18, 6], [6, 13, 18]), ([11, 19, 6], [6, 11, 19]), ([6, 20], [6, 20]), ([21, 6], [21]), ([22], [22]), ([22], [22]), ([24, 22], [22, 24]), ([23, 25, 22], [22, 23, 25]), ([26, 22], [22, 26]), ([27, 22], [22, 27]), ([22], [22]), ([22], [22]), ([30, 22], [22, 30]), ([29, 31, 22], [22, 29, 31]), ([32, 22], [22, 32]), ([28, 33, 22], [22, 28, 33]), ([22, 34], [22, 34])])
def spec_l3Steps.B15 : List Nat := [0, 0, 2, 7, 15, 31, 63, 127, 127, 383, 1023, 2047, 127, 4223, 127, 127, 32895, 114815, 245887, 520319, 1048575, 2097151, 4194303, 8388607, 8388607, 25165823, 67108863, 134217727, 268435455, 8388607, 8388607, 1082130431, 3766484991, 8061452287, 17179869183, 34359738367]
theorem spec_l3Steps.tab15 : rtab .any (opsOf Try.f33 15) = spec_l3Steps.T15 := by kernel_rfl
theorem spec_l3Steps.bits15 : waitsOk spec_l3Steps.T15.2 spec_l3Steps.B15 = true := by kernel_rfl
def spec_l3Steps.T16 : Bool × List (List Nat × List Nat) := (true, [([], []), ([], []), ([1], [1]), ([], []), ([], []), ([4], [4]), ([3, 5], [3, 5]), ([6], [6]), ([7], [7]), ([0, 2, 0, 1, 2, 3, 4, 5, 6, 7, 8], [0, 2]), ([9, 8, 0, 1, 2, 3, 4, 5, 6, 7, 8], [8, 9])])
def spec_l3Steps.B16 : List Nat := [0, 0, 2, 0, 0, 16, 56, 120, 248, 511, 1023]
theorem spec_l3Steps.tab16 : rtab .any (opsOf Try.f33 16) = spec_l3Steps.T16 := by kernel_rfl
theorem spec_l3Steps.bits16 : waitsOk spec_l3Steps.T16.2 spec_l3Steps.B16 = true := by kernel_rfl
set_option maxHeartbeats 200000000 in
set_option maxRecDepth 100000 in
theorem spec_l3Steps.calls (k : Nat) (a0_0 : Int) (A0_1 : Option Addr) (c0_1 : Nat) (l0_1 : List (S47)) (a1 : Int) (r : List Int) (w : World) (hr0_1 : Kd.C k47 w A0_1 l0_1.length l0_1) (hc0_1 : l0_1.length ≤ c0_1) (h : spec_l3Steps.f k a0_0 l0_1 a1 = some r) :
    Calls Try.prog 33 #[.agg #[.int .i64 a0_0, .slice A0_1 l0_1.length c0_1], .int .i64 a1] w fun e w' => ∃ v0_ : Value, e = .returned (v0_) ∧ Kd.R (Kd.int .i64) 3 w' w.heap.size (fun _ => True) v0_ r ∧ Below w.heap.size w w' := by
  have hu25 := Try.underlying25
  have hu47 := Try.underlying47
  have HR0_1 := Aside0.mk hr0_1
  have HC0_1 := Aside0.mk hc0_1
  clear hr0_1 hc0_1
  have HB := Aside0.mk (Below.refl w.heap.size w)
  have H : ((spec_l1Back.f k a0_0 l0_1).bind fun bt270 => ((spec_l3All.f k bt270.1 bt270.2 a1).bind fun t274 => (if 0 ≤ a0_0 then (if (a0_0 : Int).toNat ≤ 35184372088832 then (spec_l3Steps.l0 k a1 t274 (List.replicate (a0_0 : Int).toNat 0) 0 a0_0 l0_1) else (none)) else (none)))) = some r := h
  clear h
  replace H := Option.bind_eq_some_iff.mp H
  obtain ⟨⟨t270, t271⟩, A30, H⟩ := H
  try dsimp only at H
  have A3 := Aside0.mk A30
  clear A30
  replace H := Option.bind_eq_some_iff.mp H
  obtain ⟨t274, A40, H⟩ := H
  try dsimp only at H
  have A4 := Aside0.mk A40
  clear A40
  by_cases c5 : 0 ≤ a0_0
  rotate_left
  ·rw [if_neg c5] at H
   exact absurd H (by simp)

  rw [if_pos c5] at H
  have c5b0 := eq_true c5
  have c5b1 : decide (0 ≤ a0_0) = true := decide_eq_true c5
  clear c5
  by_cases c6 : (a0_0 : Int).toNat ≤ 35184372088832
  rotate_left
  ·rw [if_neg c6] at H
   exact absurd H (by simp)
  rw [if_pos c6] at H
  have c6b0 := eq_true c6
  have c6b1 : decide ((a0_0 : Int).toNat ≤ 35184372088832) = true := decide_eq_true c6
  clear c6
  obtain ⟨y277, hy277⟩ : ∃ y_ : List Int, y_ = (List.replicate (a0_0 : Int).toNat 0) := ⟨_, rfl⟩
  replace H : (spec_l3Steps.l0 k a1 t274 y277 0 a0_0 l0_1) = some r := by first | (rw [hy277]; with_reducible exact H) | (have H2_ := (Option.bind_some _ _).symm.trans H; rw [hy277]; with_reducible exact H2_) | (have H2_ := (Option.bind_some _ _).symm.trans H; with_reducible exact H2_) | with_reducible exact H | (rw [hy277]; exact H) | exact H
  have Ny277 := Aside0.mk hy277
  clear hy277
  have H' := Aside0.mk H
  clear H
  go_enter Try.func33, Try.ntmps33
  go_wp2_with (first | ((with_reducible refine gate_dst (N := 2) rfl ?_); refine bx_ 2 #[.int .i64 a0_0, .slice A0_1 l0_1.length c0_1] 25 ?_; intro gb269 hg w7 hbox hb; have BK269 := Aside0.mk (hbox); have GW269 := Aside0.mk (zs_ hg (ne_ HB.out)); have GE269 := Aside0.mk (zs_ hg (ne_ HB.out)); replace HB := kB_ HB hb; clear hb hbox hg; obtain ⟨hcz8_0, hcz8_1, hfz8_0, hfz8_1⟩ := cz2_ BK269.out) | ((with_reducible refine gate_callee (f := 32) rfl ?_); refine gl_ (some 12) Try.func32 #[.agg #[.int .i64 a0_0, .slice A0_1 l0_1.length c0_1]] ?_; (with_reducible refine (spec_l1Back.calls k a0_0 _ _ l0_1 t270 t271 _ ?side1 ?side2 A3.out).mono ?_); (case side1 => exact nc_ (Kd.C_below HR0_1.out HB.out)); (case side2 => exact HC0_1.out); rintro e w9 ⟨v272, rfl, ho0, hb⟩; refine ⟨_, rfl, ?_⟩; have HO273 := Aside0.mk (Kd.R_lower ho0 (below_size (ne_ HB.out))); replace BK269 := kb_ BK269 hb; replace HB := kB_ HB hb; (try clear hb); (try clear hb2); (try clear hk); (try clear hi); (try clear ho0); obtain ⟨Ao10, co10, eo10⟩ := Kd.R_slice HO273.out; subst eo10) | ((with_reducible refine gate_callee (f := 31) rfl ?_); refine gl_ (some 14) Try.func31 #[.agg #[.int .i64 t270, .slice Ao10 t271.length co10], .int .i64 a1] ?_; (with_reducible refine (spec_l3All.calls k t270 _ _ t271 a1 t274 _ ?side1 ?side2 A4.out).mono ?_); (case side1 => exact nc_ (Kd.R_reads' HO273.out).2.2); (case side2 => exact (Kd.R_reads' HO273.out).2.1); rintro e w11 ⟨v275, rfl, ho0, hb⟩; refine ⟨_, rfl, ?_⟩; have HO276 := Aside0.mk (Kd.R_lower ho0 (below_size (ne_ HB.out))); replace HO273 := kR_ HO273 hb; replace BK269 := kb_ BK269 hb; replace HB := kB_ HB hb; (try clear hb); (try clear hb2); (try clear hk); (try clear hi); (try clear ho0); obtain ⟨hcz12_0, hcz12_1, hfz12_0, hfz12_1⟩ := cz2_ BK269.out) | ((with_reducible refine gate_dst (N := 17) rfl ?_); refine Kd.R_make (Kd.int .i64) _ 3 rfl (N := 17) rfl 28 _ _ rfl a0_0 rfl rfl Try.underlying28 (.int .i64 0) 8 info3 rfl (by decide) (by omega) 0 (ok := fun _ => True) (okp := fun _ => True) rfl (fun _ hk => hk) trivial (of_decide_eq_true nx_) (Nat.le_trans (Nat.mul_le_mul_right _ (of_decide_eq_true nx_ : a0_0.toNat ≤ 35184372088832)) (by omega)) (Below.refl _ _) (Nat.le_refl _) ?_; intro v278 w13 ho14 hb hg_ hnew_; clear hg_ hnew_; (first | rw [← Ny277.out] at ho14 | (simp only [Int.reduceToNat] at ho14; rw [← Ny277.out] at ho14)); have HO279 := Aside0.mk (Kd.R_lower (Kd.R_new' ho14 (Kd.R_lt (nr_ HO276.out))) (below_size (ne_ HB.out))); replace HO273 := kR_ HO273 hb; replace HO276 := Aside0.mk (Kd.R_elder' (nr_ HO276.out) (Kd.R_base ho14) hb); replace BK269 := kb_ BK269 hb; replace HB := kB_ HB hb; clear hb ho14))
  go_loopg [7] k (fun kq v7 w' => ∃ (x6_1 : List Int) (x7_1 : Int), v7 = .int .i64 x7_1 ∧ Aside0 (spec_l3Steps.l0 kq a1 t274 x6_1 x7_1 a0_0 l0_1 = some r) ∧ Aside0 (kq ≤ k) ∧ Aside0 (Kd.R (Kd.int .i64) 3 w' w.heap.size (fun k_ => some k_ ≠ (v278 : Value).ownBlock) v275 t274) ∧ Aside0 (Kd.R (Kd.int .i64) 3 w' w.heap.size (fun k_ => some k_ ≠ (v275 : Value).ownBlock) v278 x6_1) ∧ Aside0 (w'.heap[gb269]? = some (.cells #[.int .i64 a0_0, (.slice A0_1 l0_1.length c0_1)] 25 (0, 0))) ∧ Aside0 (Below w.heap.size w w'))
  case atStart => exact ⟨(y277), (0), ns_, H', ⟨Nat.le_refl _⟩, ⟨by (with_reducible repeat (first | apply Kd.R_alloc | apply Kd.R_drewN | apply Kd.R_drew)); exact Kd.R_mono HO276.out (fun _ hk => by first | exact hk.2 | trivial | simp_all)⟩, ⟨by (with_reducible repeat (first | apply Kd.R_alloc | apply Kd.R_drewN | apply Kd.R_drew)); exact Kd.R_mono HO279.out (fun _ hk => by first | exact hk.2 | trivial | simp_all)⟩, ⟨nb_ BK269.out⟩, ⟨ne_ HB.out⟩⟩
  case round =>
   clear H'
   try clear c5
   try clear c5b0
   try clear c5b1
   try clear c6
   try clear c6b0
   try clear c6b1
   try clear hcz12_0
   try clear hcz12_1
   try clear hcz8_0
   try clear hcz8_1
   try clear hfz12_0
   try clear hfz12_1
   try clear hfz8_0
   try clear hfz8_1
   obtain ⟨x6_1, x7_1, rfl, HA, HK1, HO_5, HO_6, BK269, HB⟩ := hrel
   cases gk with
   | zero => exact absurd HA.out (by simp [spec_l3Steps.l0])
   | succ k1 =>
    have H := HA.out
    clear HA
    simp only [spec_l3Steps.l0] at H
    by_cases c15 : x7_1 < a0_0
    ·rw [if_pos c15] at H
     have c15b0 : decide (x7_1 < a0_0) = true := decide_eq_true c15
     clear c15
     by_cases c16 : 0 ≤ x7_1
     rotate_left
     ·rw [if_neg c16] at H
      exact absurd H (by simp)
     rw [if_pos c16] at H
     have c16b0 : decide (0 ≤ x7_1) = true := decide_eq_true c16
     clear c16
     by_cases c17 : x7_1 < (x6_1.length : Int)
     rotate_left
     ·rw [if_neg c17] at H
      exact absurd H (by simp)
     rw [if_pos c17] at H
     have c17b0 : decide (x7_1 < (x6_1.length : Int)) = true := decide_eq_true c17
     clear c17
     obtain ⟨y280, hy280⟩ : ∃ y_ : List Int, y_ = (x6_1.set (x7_1 : Int).toNat 99999) := ⟨_, rfl⟩
     replace H : (spec_l3Steps.l0 k1 a1 t274 y280 (wrap64 (x7_1 + 1)) a0_0 l0_1) = some r := by first | (rw [hy280]; with_reducible exact H) | (have H2_ := (Option.bind_some _ _).symm.trans H; rw [hy280]; with_reducible exact H2_) | (have H2_ := (Option.bind_some _ _).symm.trans H; with_reducible exact H2_) | with_reducible exact H | (rw [hy280]; exact H) | exact H
     have Ny280 := Aside0.mk hy280
     clear hy280
     have H' := Aside0.mk H
     clear H
     obtain ⟨hcz19_0, hcz19_1, hfz19_0, hfz19_1⟩ := cz2_ BK269.out
     have p18 : 0 ≤ (x7_1 : Int) := of_decide_eq_true nx_
     have q18 : (x7_1 : Int) < ((x6_1.length : Int) : Int) := of_decide_eq_true nx_
     obtain ⟨go18, co18, eo18, gb18, gl18, cl18, HG18⟩ := Kd.R_form HO_6.out (by omega)
     (first | cases eo18 | (injection eo18 with ea_ en_ ec_; (first | subst ea_ | (injection ea_ with ea_; subst ea_)); subst ec_; clear en_))
     have GB18 := Aside0.mk gb18
     have GG18 := Aside0.mk HG18
     clear gb18 gl18 HG18
     obtain ⟨hx18_0, hf18_0⟩ := Kd.R_celln 0 HO_6.out (x7_1 : Int) p18 q18
     replace p18 := eq_true p18
     replace q18 := eq_true q18
     have HP20 := Kd.R_putg HO_6.out (x7_1 : Int) 99999
     go_wp2_with (first | ((with_reducible refine gate_store (t := 3) (p := 26) rfl ?_); refine store_event (t := 3) (p := 26) (v := ?vo_w21) (w1 := (wr.setCell ⟨go18, (x7_1 : Int).toNat, none⟩ (.int .i64 99999))) ?hg ?ho ?hn ?hr ?_; (case ho => rfl); (case hg => rfl); (case hn => rfl); (case hr => first | (go_simp; done) | (go_simp; rfl)); intro w21 hw; have hg : wr.grownBy w21 (some go18) := (by rw [hw]; exact HP20.2); have hp_ : Kd.R (Kd.int .i64) 3 w21 w.heap.size (fun k_ => some k_ ≠ (v275 : Value).ownBlock) (.slice (some ⟨go18, 0, none⟩) x6_1.length co18) y280 := (by rw [hw, Ny280.out]; exact HP20.1); clear HP20; replace HO_5 := Aside0.mk (Kd.R_after (v := (.slice (some ⟨go18, 0, none⟩) x6_1.length co18)) (v1 := (.slice (some ⟨go18, 0, none⟩) x6_1.length co18)) (ok := (fun _ => True)) (by (with_reducible repeat (first | apply Kd.R_alloc | apply Kd.R_drewN | apply Kd.R_drew)); exact Kd.R_mono HO_5.out (fun _ hk => by first | exact ⟨trivial, hk⟩ | trivial | simp_all)) hg (.inl rfl)); replace BK269 := Aside0.mk (blk_grown (g := gb269) (o := .cells #[.int .i64 a0_0, .slice A0_1 l0_1.length c0_1] 25 (0, 0)) (nb_ BK269.out) hg (Kd.R_ne HO_6.out BK269.out (by decide))); replace HO_6 := Aside0.mk (hp_); replace HB := Aside0.mk ((by rw [hw]; exact below_set (HB.out) GB18.out : Below w.heap.size w w21)); clear hg hw hp_))
     go_roundg k1
     case measure => have := HK1.out; omega
     case rel => exact ⟨(y280), (wrap64 (x7_1 + 1)), ns_, H', ⟨by have := HK1.out; omega⟩, ⟨by (with_reducible repeat (first | apply Kd.R_alloc | apply Kd.R_drewN | apply Kd.R_drew)); exact Kd.R_mono HO_5.out (fun _ hk => by first | exact hk.2 | trivial | simp_all)⟩, ⟨nr_ HO_6.out⟩, ⟨nb_ BK269.out⟩, ⟨ne_ HB.out⟩⟩
    rw [if_neg c15] at H
    have c15b0 : decide (x7_1 < a0_0) = false := decide_eq_false c15
    clear c15
    by_cases c22 : 0 ≤ a1
    rotate_left
    ·rw [if_neg c22] at H
     exact absurd H (by simp)
    rw [if_pos c22] at H
    have c22b0 : decide (0 ≤ a1) = true := decide_eq_true c22
    clear c22
    by_cases c23 : a1 < (x6_1.length : Int)
    rotate_left
    ·rw [if_neg c23] at H
     exact absurd H (by simp)
    rw [if_pos c23] at H
    have c23b0 : decide (a1 < (x6_1.length : Int)) = true := decide_eq_true c23
    clear c23
    obtain ⟨y281, hy281⟩ : ∃ y_ : List Int, y_ = (x6_1.set (a1 : Int).toNat 0) := ⟨_, rfl⟩
    replace H : (spec_l3Steps.l1 k1 t274 y281 0 a0_0 l0_1) = some r := by first | (rw [hy281]; with_reducible exact H) | (have H2_ := (Option.bind_some _ _).symm.trans H; rw [hy281]; with_reducible exact H2_) | (have H2_ := (Option.bind_some _ _).symm.trans H; with_reducible exact H2_) | with_reducible exact H | (rw [hy281]; exact H) | exact H
    have Ny281 := Aside0.mk hy281
    clear hy281
    have H' := Aside0.mk H
    clear H
    obtain ⟨hcz25_0, hcz25_1, hfz25_0, hfz25_1⟩ := cz2_ BK269.out
    have p24 : 0 ≤ (a1 : Int) := of_decide_eq_true nx_
    have q24 : (a1 : Int) < ((x6_1.length : Int) : Int) := of_decide_eq_true nx_
    obtain ⟨go24, co24, eo24, gb24, gl24, cl24, HG24⟩ := Kd.R_form HO_6.out (by omega)
    (first | cases eo24 | (injection eo24 with ea_ en_ ec_; (first | subst ea_ | (injection ea_ with ea_; subst ea_)); subst ec_; clear en_))
    have GB24 := Aside0.mk gb24
    have GG24 := Aside0.mk HG24
    clear gb24 gl24 HG24
    obtain ⟨hx24_0, hf24_0⟩ := Kd.R_celln 0 HO_6.out (a1 : Int) p24 q24
    replace p24 := eq_true p24
    replace q24 := eq_true q24
    have HP26 := Kd.R_putg HO_6.out (a1 : Int) 0
    go_wp2_with (first | ((with_reducible refine gate_store (t := 3) (p := 29) rfl ?_); refine store_event (t := 3) (p := 29) (v := ?vo_w27) (w1 := (wr.setCell ⟨go24, (a1 : Int).toNat, none⟩ (.int .i64 0))) ?hg ?ho ?hn ?hr ?_; (case ho => rfl); (case hg => rfl); (case hn => rfl); (case hr => first | (go_simp; done) | (go_simp; rfl)); intro w27 hw; have hg : wr.grownBy w27 (some go24) := (by rw [hw]; exact HP26.2); have hp_ : Kd.R (Kd.int .i64) 3 w27 w.heap.size (fun k_ => some k_ ≠ (v275 : Value).ownBlock) (.slice (some ⟨go24, 0, none⟩) x6_1.length co24) y281 := (by rw [hw, Ny281.out]; exact HP26.1); clear HP26; replace HO_5 := Aside0.mk (Kd.R_after (v := (.slice (some ⟨go24, 0, none⟩) x6_1.length co24)) (v1 := (.slice (some ⟨go24, 0, none⟩) x6_1.length co24)) (ok := (fun _ => True)) (by (with_reducible repeat (first | apply Kd.R_alloc | apply Kd.R_drewN | apply Kd.R_drew)); exact Kd.R_mono HO_5.out (fun _ hk => by first | exact ⟨trivial, hk⟩ | trivial | simp_all)) hg (.inl rfl)); replace BK269 := Aside0.mk (blk_grown (g := gb269) (o := .cells #[.int .i64 a0_0, .slice A0_1 l0_1.length c0_1] 25 (0, 0)) (nb_ BK269.out) hg (Kd.R_ne HO_6.out BK269.out (by decide))); replace HO_6 := Aside0.mk (hp_); replace HB := Aside0.mk ((by rw [hw]; exact below_set (HB.out) GB24.out : Below w.heap.size w w27)); clear hg hw hp_))
    go_loopg [8] k1 (fun kq v8 w' => ∃ (x6_2 : List Int) (x8_2 : Int), v8 = .int .i64 x8_2 ∧ Aside0 (spec_l3Steps.l1 kq t274 x6_2 x8_2 a0_0 l0_1 = some r) ∧ Aside0 (kq ≤ k1) ∧ Aside0 (Kd.R (Kd.int .i64) 3 w' w.heap.size (fun k_ => some k_ ≠ ((.slice (some ⟨go24, 0, none⟩) x6_1.length co24) : Value).ownBlock) v275 t274) ∧ Aside0 (Kd.R (Kd.int .i64) 3 w' w.heap.size (fun k_ => some k_ ≠ (v275 : Value).ownBlock) (.slice (some ⟨go24, 0, none⟩) x6_1.length co24) x6_2) ∧ Aside0 (w'.heap[gb269]? = some (.cells #[.int .i64 a0_0, (.slice A0_1 l0_1.length c0_1)] 25 (0, 0))) ∧ Aside0 (Below w.heap.size w w'))
    case atStart => exact ⟨(y281), (0), ns_, H', ⟨Nat.le_refl _⟩, ⟨by (with_reducible repeat (first | apply Kd.R_alloc | apply Kd.R_drewN | apply Kd.R_drew)); exact Kd.R_mono HO_5.out (fun _ hk => by first | exact hk.2 | trivial | simp_all)⟩, ⟨nr_ HO_6.out⟩, ⟨nb_ BK269.out⟩, ⟨ne_ HB.out⟩⟩
    case round =>
     clear H'
     try clear c5
     try clear c5b0
     try clear c5b1
     try clear c6
     try clear c6b0
     try clear c6b1
     try clear c15
     try clear c15b0
     try clear c22
     try clear c22b0
     try clear c23
     try clear c23b0
     try clear p24
     try clear q24
     try clear hcz12_0
     try clear hcz12_1
     try clear hcz25_0
     try clear hcz25_1
     try clear hcz8_0
     try clear hcz8_1
     try clear hfz12_0
     try clear hfz12_1
     try clear hfz25_0
     try clear hfz25_1
     try clear hfz8_0
     try clear hfz8_1
     try clear hx24_0
     try clear p24
     try clear q24
     obtain ⟨x6_2, x8_2, rfl, HA, HK2, HO_5, HO_6, BK269, HB⟩ := hrel
     have hl6_2 := (Kd.R_reads' HO_6.out).1
     rw [hl6_2] at HO_6
     (try simp only [hl6_2])
     (try simp only [hl6_2] at BK269)
     (try simp only [hl6_2] at HO_5)
     cases gk with
     | zero => exact absurd HA.out (by simp [spec_l3Steps.l1])
     | succ k2 =>
      have H := HA.out
      clear HA
      simp only [spec_l3Steps.l1] at H
      by_cases c28 : x8_2 < a0_0
      rotate_left
      ·rw [if_neg c28] at H
       have c28b0 : decide (x8_2 < a0_0) = false := decide_eq_false c28
       clear c28
       obtain rfl := Option.some.inj H
       obtain ⟨hcz73_0, hcz73_1, hfz73_0, hfz73_1⟩ := cz2_ BK269.out
       go_wp2
       go_ret
       exact ⟨_, nw_, by (with_reducible repeat (first | apply Kd.R_alloc | apply Kd.R_drewN | apply Kd.R_drew)); exact Kd.R_mono HO_6.out (fun _ hk => trivial), ne_ HB.out⟩
      rw [if_pos c28] at H
      have c28b0 : decide (x8_2 < a0_0) = true := decide_eq_true c28
      clear c28
      have H' := Aside0.mk H
      clear H
      obtain ⟨hcz29_0, hcz29_1, hfz29_0, hfz29_1⟩ := cz2_ BK269.out
      go_wp2
      go_loopg [9] k2 (fun kq v9 w' => ∃ (x6_3 : List Int) (x9_3 : Int), v9 = .int .i64 x9_3 ∧ Aside0 (spec_l3Steps.l2 kq t274 x6_3 x8_2 x9_3 a0_0 l0_1 = some r) ∧ Aside0 (kq ≤ k2) ∧ Aside0 (Kd.R (Kd.int .i64) 3 w' w.heap.size (fun k_ => some k_ ≠ ((.slice (some ⟨go24, 0, none⟩) x6_2.length co24) : Value).ownBlock) v275 t274) ∧ Aside0 (Kd.R (Kd.int .i64) 3 w' w.heap.size (fun k_ => some k_ ≠ (v275 : Value).ownBlock) (.slice (some ⟨go24, 0, none⟩) x6_2.length co24) x6_3) ∧ Aside0 (w'.heap[gb269]? = some (.cells #[.int .i64 a0_0, (.slice A0_1 l0_1.length c0_1)] 25 (0, 0))) ∧ Aside0 (Below w.heap.size w w'))
      case atStart => exact ⟨(x6_2), (0), ns_, H', ⟨Nat.le_refl _⟩, ⟨by (try simp only [hl6_2]); (with_reducible repeat (first | apply Kd.R_alloc | apply Kd.R_drewN | apply Kd.R_drew)); exact HO_5.out⟩, ⟨by (try simp only [hl6_2]); (with_reducible repeat (first | apply Kd.R_alloc | apply Kd.R_drewN | apply Kd.R_drew)); exact HO_6.out⟩, ⟨by (try simp only [hl6_2]); (with_reducible repeat (first | refine blk_drewN ?_ _ | refine blk_drew ?_ | refine blk_alloc ?_ _)); exact BK269.out⟩, ⟨ne_ HB.out⟩⟩
      case round =>
       clear H'
       try clear c5
       try clear c5b0
       try clear c5b1
       try clear c6
       try clear c6b0
       try clear c6b1
       try clear c15
       try clear c15b0
       try clear c22
       try clear c22b0
       try clear c23
       try clear c23b0
       try clear p24
       try clear q24
       try clear c28
       try clear c28b0
       try clear hcz12_0
       try clear hcz12_1
       try clear hcz25_0
       try clear hcz25_1
       try clear hcz29_0
       try clear hcz29_1
       try clear hcz8_0
       try clear hcz8_1
       try clear hfz12_0
       try clear hfz12_1
       try clear hfz25_0
       try clear hfz25_1
       try clear hfz29_0
       try clear hfz29_1
       try clear hfz8_0
       try clear hfz8_1
       try clear hx24_0
       try clear p24
       try clear q24
       obtain ⟨x6_3, x9_3, rfl, HA, HK3, HO_5, HO_6, BK269, HB⟩ := hrel
       have hl6_3 := (Kd.R_reads' HO_6.out).1
       rw [hl6_3] at HO_6
       (try simp only [hl6_3])
       (try simp only [hl6_3] at BK269)
       (try simp only [hl6_3] at HO_5)
       cases gk with
       | zero => exact absurd HA.out (by simp [spec_l3Steps.l2])
       | succ k3 =>
        have H := HA.out
        clear HA
        simp only [spec_l3Steps.l2] at H
        by_cases c30 : x9_3 < (l0_1.length : Int)
        rotate_left
        ·rw [if_neg c30] at H
         have c30b0 : decide (x9_3 < (l0_1.length : Int)) = false := decide_eq_false c30
         clear c30
         have H' := Aside0.mk H
         clear H
         obtain ⟨hcz72_0, hcz72_1, hfz72_0, hfz72_1⟩ := cz2_ BK269.out
         go_wp2
         (try simp only [← hl6_2, ← hl6_3])
         go_roundg k3
         case measure => have := HK1.out; have := HK2.out; have := HK3.out; omega
         case rel => exact ⟨(x6_3), (wrap64 (x8_2 + 1)), ns_, H', ⟨by have := HK1.out; have := HK2.out; have := HK3.out; omega⟩, ⟨by (try simp only [hl6_2]); (try simp only [hl6_3]); (with_reducible repeat (first | apply Kd.R_alloc | apply Kd.R_drewN | apply Kd.R_drew)); exact HO_5.out⟩, ⟨by (try simp only [hl6_2]); (try simp only [hl6_3]); (with_reducible repeat (first | apply Kd.R_alloc | apply Kd.R_drewN | apply Kd.R_drew)); exact HO_6.out⟩, ⟨by (try simp only [hl6_2]); (try simp only [hl6_3]); (with_reducible repeat (first | refine blk_drewN ?_ _ | refine blk_drew ?_ | refine blk_alloc ?_ _)); exact BK269.out⟩, ⟨ne_ HB.out⟩⟩
        rw [if_pos c30] at H
        have c30b0 : decide (x9_3 < (l0_1.length : Int)) = true := decide_eq_true c30
        clear c30
        by_cases c31 : 0 ≤ x9_3
        rotate_left
        ·rw [if_neg c31] at H
         exact absurd H (by simp)
        rw [if_pos c31] at H
        have c31b0 : decide (0 ≤ x9_3) = true := decide_eq_true c31
        clear c31
        by_cases c32 : 0 ≤ ((rd_T47 l0_1 x9_3).f1)
        rotate_left
        ·rw [if_neg c32] at H
         exact absurd H (by simp)
        rw [if_pos c32] at H
        have c32b0 : decide (0 ≤ ((rd_T47 l0_1 x9_3).f1)) = true := decide_eq_true c32
        clear c32
        by_cases c33 : ((rd_T47 l0_1 x9_3).f1) < (t274.length : Int)
        rotate_left
        ·rw [if_neg c33] at H
         exact absurd H (by simp)
        rw [if_pos c33] at H
        have c33b0 : decide (((rd_T47 l0_1 x9_3).f1) < (t274.length : Int)) = true := decide_eq_true c33
        clear c33
        by_cases c34 : (rd t274 ((rd_T47 l0_1 x9_3).f1)) < 99999
        rotate_left
        ·rw [if_neg c34] at H
         have c34b0 : decide ((rd t274 ((rd_T47 l0_1 x9_3).f1)) < 99999) = false := decide_eq_false c34
         clear c34
         have H' := Aside0.mk H
         clear H
         obtain ⟨hcz65_0, hcz65_1, hfz65_0, hfz65_1⟩ := cz2_ BK269.out
         have p282 : 0 ≤ (x9_3 : Int) := of_decide_eq_true nx_
         have q282 : x9_3 < (l0_1.length : Int) := of_decide_eq_true nx_
         obtain ⟨ad282, e282, hx282_0, hx282_1, hx282_2, hx282_3, hx282_4⟩ := at_T47 HR0_1.out x9_3 p282 q282
         cases e282
         replace hx282_0 := hb_ HB.out hx282_0
         replace hx282_1 := hb_ HB.out hx282_1
         replace hx282_2 := hb_ HB.out hx282_2
         replace hx282_3 := hb_ HB.out hx282_3
         replace hx282_4 := hb_ HB.out hx282_4
         replace p282 := eq_true p282
         replace q282 := eq_true q282
         try go_wp2_with (first | ((with_reducible refine gate_dst (N := 10) rfl ?_); refine bx_ 10 #[.int .i64 0, .int .i64 0, .int .i64 0, .int .i64 0, .int .i64 0] 47 ?_; intro gb283 hg w66 hbox hb; have BK283 := Aside0.mk (hbox); have GW283 := Aside0.mk (zs_ hg (ne_ HB.out)); have GE283 := Aside0.mk (zs_ hg (ne_ HB.out)); have NB269_283 := Aside0.mk (nl_ BK269.out hg); have NB283_269 := Aside0.mk (nm_ BK269.out hg); replace HO_5 := kR_ HO_5 hb; replace HO_6 := kR_ HO_6 hb; replace BK269 := kb_ BK269 hb; replace HB := kB_ HB hb; clear hb hbox hg; have hnb67 := NB283_269.out; have hnc67 := NB269_283.out; obtain ⟨hcz68_0, hcz68_1, hcz68_2, hcz68_3, hcz68_4, hfz68_0, hfz68_1, hfz68_2, hfz68_3, hfz68_4⟩ := cz5_ BK283.out))
         have n0_ : Aside0 (Kd.R (Kd.int .i64) 3 (((((w66.setCell ⟨gb283, 0, none⟩ (.int .i64 ((rd_T47 l0_1 x9_3).f0))).setCell ⟨gb283, 1, none⟩ (.int .i64 ((rd_T47 l0_1 x9_3).f1))).setCell ⟨gb283, 2, none⟩ (.int .i64 ((rd_T47 l0_1 x9_3).f2))).setCell ⟨gb283, 3, none⟩ (.int .i64 ((rd_T47 l0_1 x9_3).f3))).setCell ⟨gb283, 4, none⟩ (.int .i64 ((rd_T47 l0_1 x9_3).f4))) w.heap.size (fun k_ => some k_ ≠ (.slice (some ⟨go24, 0, none⟩) x6_3.length co24 : Value).ownBlock) v275 t274) := ⟨by (with_reducible repeat (first | apply Kd.R_alloc | apply Kd.R_drewN | apply Kd.R_drew)); exact Kd.R_mono (rf5_ (Kd.R_types HO_5.out BK283.out (by decide))) (fun _ hk => hk.1)⟩
         have n1_ : Aside0 (Kd.R (Kd.int .i64) 3 (((((w66.setCell ⟨gb283, 0, none⟩ (.int .i64 ((rd_T47 l0_1 x9_3).f0))).setCell ⟨gb283, 1, none⟩ (.int .i64 ((rd_T47 l0_1 x9_3).f1))).setCell ⟨gb283, 2, none⟩ (.int .i64 ((rd_T47 l0_1 x9_3).f2))).setCell ⟨gb283, 3, none⟩ (.int .i64 ((rd_T47 l0_1 x9_3).f3))).setCell ⟨gb283, 4, none⟩ (.int .i64 ((rd_T47 l0_1 x9_3).f4))) w.heap.size (fun k_ => some k_ ≠ (v275 : Value).ownBlock) (.slice (some ⟨go24, 0, none⟩) x6_3.length co24) x6_3) := ⟨by (with_reducible repeat (first | apply Kd.R_alloc | apply Kd.R_drewN | apply Kd.R_drew)); exact Kd.R_mono (rf5_ (Kd.R_types HO_6.out BK283.out (by decide))) (fun _ hk => hk.1)⟩
         have n2_ : Aside0 ((((((w66.setCell ⟨gb283, 0, none⟩ (.int .i64 ((rd_T47 l0_1 x9_3).f0))).setCell ⟨gb283, 1, none⟩ (.int .i64 ((rd_T47 l0_1 x9_3).f1))).setCell ⟨gb283, 2, none⟩ (.int .i64 ((rd_T47 l0_1 x9_3).f2))).setCell ⟨gb283, 3, none⟩ (.int .i64 ((rd_T47 l0_1 x9_3).f3))).setCell ⟨gb283, 4, none⟩ (.int .i64 ((rd_T47 l0_1 x9_3).f4))).heap[gb269]? = some (.cells #[.int .i64 a0_0, .slice (some ad282) l0_1.length c0_1] 25 (0, 0))) := ⟨np_ BK269.out⟩
         have n3_ : Aside0 ((((((w66.setCell ⟨gb283, 0, none⟩ (.int .i64 ((rd_T47 l0_1 x9_3).f0))).setCell ⟨gb283, 1, none⟩ (.int .i64 ((rd_T47 l0_1 x9_3).f1))).setCell ⟨gb283, 2, none⟩ (.int .i64 ((rd_T47 l0_1 x9_3).f2))).setCell ⟨gb283, 3, none⟩ (.int .i64 ((rd_T47 l0_1 x9_3).f3))).setCell ⟨gb283, 4, none⟩ (.int .i64 ((rd_T47 l0_1 x9_3).f4))).heap[gb283]? = some (.cells #[.int .i64 ((rd_T47 l0_1 x9_3).f0), .int .i64 ((rd_T47 l0_1 x9_3).f1), .int .i64 ((rd_T47 l0_1 x9_3).f2), .int .i64 ((rd_T47 l0_1 x9_3).f3), .int .i64 ((rd_T47 l0_1 x9_3).f4)] 47 (0, 0))) := ⟨np_ BK283.out⟩
         have n4_ : Aside0 (Below w.heap.size w (((((w66.setCell ⟨gb283, 0, none⟩ (.int .i64 ((rd_T47 l0_1 x9_3).f0))).setCell ⟨gb283, 1, none⟩ (.int .i64 ((rd_T47 l0_1 x9_3).f1))).setCell ⟨gb283, 2, none⟩ (.int .i64 ((rd_T47 l0_1 x9_3).f2))).setCell ⟨gb283, 3, none⟩ (.int .i64 ((rd_T47 l0_1 x9_3).f3))).setCell ⟨gb283, 4, none⟩ (.int .i64 ((rd_T47 l0_1 x9_3).f4)))) := ⟨ne_ HB.out⟩
         (try clear HO_5)
         (try clear HO_6)
         (try clear BK269)
         (try clear BK283)
         (try clear HB)
         generalize (((((w66.setCell ⟨gb283, 0, none⟩ (.int .i64 ((rd_T47 l0_1 x9_3).f0))).setCell ⟨gb283, 1, none⟩ (.int .i64 ((rd_T47 l0_1 x9_3).f1))).setCell ⟨gb283, 2, none⟩ (.int .i64 ((rd_T47 l0_1 x9_3).f2))).setCell ⟨gb283, 3, none⟩ (.int .i64 ((rd_T47 l0_1 x9_3).f3))).setCell ⟨gb283, 4, none⟩ (.int .i64 ((rd_T47 l0_1 x9_3).f4))) = w69 at n0_ n1_ n2_ n3_ n4_ ⊢
         have HO_5 := n0_
         have HO_6 := n1_
         have BK269 := n2_
         have BK283 := n3_
         have HB := n4_
         clear n0_ n1_ n2_ n3_ n4_
         replace HO_5 := Aside0.mk (Kd.R_drew HO_5.out)
         replace HO_6 := Aside0.mk (Kd.R_drew HO_6.out)
         replace BK269 := Aside0.mk (blk_drew BK269.out)
         replace BK283 := Aside0.mk (blk_drew BK283.out)
         replace HB := Aside0.mk (below_drew1 HB.out)
         obtain ⟨Ao71, co71, eo71⟩ := Kd.R_slice HO_5.out
         (first | subst eo71 | (injection eo71 with f1_ f2_ f3_; have f4_ := f1_.symm; have f5_ := f3_.symm; clear f1_ f2_ f3_; subst f4_; subst f5_))
         have p284 : 0 ≤ (((rd_T47 l0_1 x9_3).f1) : Int) := of_decide_eq_true nx_
         have q284 : ((rd_T47 l0_1 x9_3).f1) < (t274.length : Int) := of_decide_eq_true nx_
         obtain ⟨ad284, e284, hx284_0⟩ := Kd.at_int (Kd.R_reads' HO_5.out).2.2 ((rd_T47 l0_1 x9_3).f1) p284 q284
         cases e284
         replace p284 := eq_true p284
         replace q284 := eq_true q284
         refine start_ (n := 36) (S := fun w' => w'.cell? ⟨gb283, 0, none⟩ = some (.int .i64 ((rd_T47 l0_1 x9_3).f0)) ∧ w'.cell? ⟨gb283, 1, none⟩ = some (.int .i64 ((rd_T47 l0_1 x9_3).f1)) ∧ w'.cell? ⟨gb283, 2, none⟩ = some (.int .i64 ((rd_T47 l0_1 x9_3).f2)) ∧ w'.cell? ⟨gb283, 3, none⟩ = some (.int .i64 ((rd_T47 l0_1 x9_3).f3)) ∧ w'.cell? ⟨gb283, 4, none⟩ = some (.int .i64 ((rd_T47 l0_1 x9_3).f4)) ∧ w'.cell? (ad284.add (((rd_T47 l0_1 x9_3).f1)).toNat) = some (.int .i64 (rd t274 ((rd_T47 l0_1 x9_3).f1)))) (ds := []) z33_0 (by kernel_rfl) rfl rfl ⟨ct_ BK283.out 0, ct_ BK283.out 1, ct_ BK283.out 2, ct_ BK283.out 3, ct_ BK283.out 4, hx284_0⟩ (fun hHeld => ?_); refine with_tabW spec_l3Steps.tab15 spec_l3Steps.bits15 (fun HT_ HW_ => ?_)
         generalize w69.drew = w70 at HO_5 HO_6 BK269 BK283 HB hx284_0 hHeld ⊢
         refine pu_ 0 48 z33_1 HT_.out ?_
         refine pu_ 1 49 z33_2 HT_.out ?_
         refine tk_ 2 50 z33_3 HT_.out HW_.out hHeld ?_
         refine pu_ 3 51 z33_4 HT_.out ?_
         refine tk_ 4 52 z33_5 HT_.out HW_.out hHeld ?_
         refine pu_ 5 53 z33_6 HT_.out ?_
         refine pu_ 6 54 z33_7 HT_.out ?_
         refine un_ 7 55 z33_8 HT_.out ?_
         refine un_ 8 56 z33_9 HT_.out ?_
         refine un_ 9 57 (bm_ 36 1023) HT_.out ?_
         refine un_ 10 58 (bm_ 36 2047) HT_.out ?_
         refine un_ 11 59 (bm_ 36 4095) HT_.out ?_
         refine un_ 12 60 (bm_ 36 8191) HT_.out ?_
         refine un_ 13 61 (bm_ 36 16383) HT_.out ?_
         refine un_ 14 62 (bm_ 36 32767) HT_.out ?_
         refine un_ 15 63 z33_16 HT_.out ?_
         refine un_ 16 64 z33_17 HT_.out ?_
         refine un_ 17 65 z33_18 HT_.out ?_
         refine un_ 18 66 z33_19 HT_.out ?_
         refine un_ 19 67 z33_20 HT_.out ?_
         refine un_ 20 68 z33_21 HT_.out ?_
         refine pu_ 21 69 z33_22 HT_.out ?_
         refine pu_ 22 70 z33_23 HT_.out ?_
         refine un_ 23 71 z33_24 HT_.out ?_
         refine un_ 24 72 z33_25 HT_.out ?_
         refine un_ 25 73 z33_37 HT_.out ?_
         refine un_ 26 74 z33_38 HT_.out ?_
         refine un_ 27 75 z33_39 HT_.out ?_
         refine un_ 28 76 z33_40 HT_.out ?_
         refine un_ 29 77 z33_41 HT_.out ?_
         refine un_ 30 78 z33_31 HT_.out ?_
         refine un_ 31 79 z33_32 HT_.out ?_
         refine un_ 32 80 z33_33 HT_.out ?_
         refine un_ 33 81 z33_34 HT_.out ?_
         refine un_ 34 82 z33_35 HT_.out ?_
         refine pu_ 35 83 z33_36 HT_.out ?_
         refine done_ (done_of HT_.out (by kernel_rfl)) ?_
         try go_wp2
         (try simp only [← hl6_3])
         go_roundg k3
         case measure => have := HK1.out; have := HK2.out; have := HK3.out; omega
         case rel => exact ⟨(x6_3), (wrap64 (x9_3 + 1)), ns_, H', ⟨by have := HK1.out; have := HK2.out; have := HK3.out; omega⟩, ⟨by (try simp only [hl6_2]); (try simp only [hl6_3]); (with_reducible repeat (first | apply Kd.R_alloc | apply Kd.R_drewN | apply Kd.R_drew)); exact HO_5.out⟩, ⟨by (try simp only [hl6_2]); (try simp only [hl6_3]); (with_reducible repeat (first | apply Kd.R_alloc | apply Kd.R_drewN | apply Kd.R_drew)); exact HO_6.out⟩, ⟨by (try simp only [hl6_2]); (try simp only [hl6_3]); (with_reducible repeat (first | refine blk_drewN ?_ _ | refine blk_drew ?_ | refine blk_alloc ?_ _)); exact BK269.out⟩, ⟨ne_ HB.out⟩⟩
        rw [if_pos c34] at H
        have c34b0 : decide ((rd t274 ((rd_T47 l0_1 x9_3).f1)) < 99999) = true := decide_eq_true c34
        clear c34
        by_cases c35 : 0 ≤ ((rd_T47 l0_1 x9_3).f0)
        rotate_left
        ·rw [if_neg c35] at H
         exact absurd H (by simp)
        rw [if_pos c35] at H
        have c35b0 : decide (0 ≤ ((rd_T47 l0_1 x9_3).f0)) = true := decide_eq_true c35
        clear c35
        by_cases c36 : ((rd_T47 l0_1 x9_3).f0) < (t274.length : Int)
        rotate_left
        ·rw [if_neg c36] at H
         exact absurd H (by simp)
        rw [if_pos c36] at H
        have c36b0 : decide (((rd_T47 l0_1 x9_3).f0) < (t274.length : Int)) = true := decide_eq_true c36
        clear c36
        by_cases c37 : (rd t274 ((rd_T47 l0_1 x9_3).f0)) = (wrap64 (((rd_T47 l0_1 x9_3).f2) + (rd t274 ((rd_T47 l0_1 x9_3).f1))))
        rotate_left
        ·rw [if_neg c37] at H
         have c37b0 : ((rd t274 ((rd_T47 l0_1 x9_3).f0)) == (wrap64 (((rd_T47 l0_1 x9_3).f2) + (rd t274 ((rd_T47 l0_1 x9_3).f1))))) = false := beq_eq_false_iff_ne.mpr c37
         have c37b1 : ((rd t274 ((rd_T47 l0_1 x9_3).f0)) != (wrap64 (((rd_T47 l0_1 x9_3).f2) + (rd t274 ((rd_T47 l0_1 x9_3).f1))))) = true := bne_iff_ne.mpr c37
         have H' := Aside0.mk H
         clear H
         obtain ⟨hcz58_0, hcz58_1, hfz58_0, hfz58_1⟩ := cz2_ BK269.out
         have p282 : 0 ≤ (x9_3 : Int) := of_decide_eq_true nx_
         have q282 : x9_3 < (l0_1.length : Int) := of_decide_eq_true nx_
         obtain ⟨ad282, e282, hx282_0, hx282_1, hx282_2, hx282_3, hx282_4⟩ := at_T47 HR0_1.out x9_3 p282 q282
         cases e282
         replace hx282_0 := hb_ HB.out hx282_0
         replace hx282_1 := hb_ HB.out hx282_1
         replace hx282_2 := hb_ HB.out hx282_2
         replace hx282_3 := hb_ HB.out hx282_3
         replace hx282_4 := hb_ HB.out hx282_4
         replace p282 := eq_true p282
         replace q282 := eq_true q282
         try go_wp2_with (first | ((with_reducible refine gate_dst (N := 10) rfl ?_); refine bx_ 10 #[.int .i64 0, .int .i64 0, .int .i64 0, .int .i64 0, .int .i64 0] 47 ?_; intro gb283 hg w59 hbox hb; have BK283 := Aside0.mk (hbox); have GW283 := Aside0.mk (zs_ hg (ne_ HB.out)); have GE283 := Aside0.mk (zs_ hg (ne_ HB.out)); have NB269_283 := Aside0.mk (nl_ BK269.out hg); have NB283_269 := Aside0.mk (nm_ BK269.out hg); replace HO_5 := kR_ HO_5 hb; replace HO_6 := kR_ HO_6 hb; replace BK269 := kb_ BK269 hb; replace HB := kB_ HB hb; clear hb hbox hg; have hnb60 := NB283_269.out; have hnc60 := NB269_283.out; obtain ⟨hcz61_0, hcz61_1, hcz61_2, hcz61_3, hcz61_4, hfz61_0, hfz61_1, hfz61_2, hfz61_3, hfz61_4⟩ := cz5_ BK283.out))
         have n0_ : Aside0 (Kd.R (Kd.int .i64) 3 (((((w59.setCell ⟨gb283, 0, none⟩ (.int .i64 ((rd_T47 l0_1 x9_3).f0))).setCell ⟨gb283, 1, none⟩ (.int .i64 ((rd_T47 l0_1 x9_3).f1))).setCell ⟨gb283, 2, none⟩ (.int .i64 ((rd_T47 l0_1 x9_3).f2))).setCell ⟨gb283, 3, none⟩ (.int .i64 ((rd_T47 l0_1 x9_3).f3))).setCell ⟨gb283, 4, none⟩ (.int .i64 ((rd_T47 l0_1 x9_3).f4))) w.heap.size (fun k_ => some k_ ≠ (.slice (some ⟨go24, 0, none⟩) x6_3.length co24 : Value).ownBlock) v275 t274) := ⟨by (with_reducible repeat (first | apply Kd.R_alloc | apply Kd.R_drewN | apply Kd.R_drew)); exact Kd.R_mono (rf5_ (Kd.R_types HO_5.out BK283.out (by decide))) (fun _ hk => hk.1)⟩
         have n1_ : Aside0 (Kd.R (Kd.int .i64) 3 (((((w59.setCell ⟨gb283, 0, none⟩ (.int .i64 ((rd_T47 l0_1 x9_3).f0))).setCell ⟨gb283, 1, none⟩ (.int .i64 ((rd_T47 l0_1 x9_3).f1))).setCell ⟨gb283, 2, none⟩ (.int .i64 ((rd_T47 l0_1 x9_3).f2))).setCell ⟨gb283, 3, none⟩ (.int .i64 ((rd_T47 l0_1 x9_3).f3))).setCell ⟨gb283, 4, none⟩ (.int .i64 ((rd_T47 l0_1 x9_3).f4))) w.heap.size (fun k_ => some k_ ≠ (v275 : Value).ownBlock) (.slice (some ⟨go24, 0, none⟩) x6_3.length co24) x6_3) := ⟨by (with_reducible repeat (first | apply Kd.R_alloc | apply Kd.R_drewN | apply Kd.R_drew)); exact Kd.R_mono (rf5_ (Kd.R_types HO_6.out BK283.out (by decide))) (fun _ hk => hk.1)⟩
         have n2_ : Aside0 ((((((w59.setCell ⟨gb283, 0, none⟩ (.int .i64 ((rd_T47 l0_1 x9_3).f0))).setCell ⟨gb283, 1, none⟩ (.int .i64 ((rd_T47 l0_1 x9_3).f1))).setCell ⟨gb283, 2, none⟩ (.int .i64 ((rd_T47 l0_1 x9_3).f2))).setCell ⟨gb283, 3, none⟩ (.int .i64 ((rd_T47 l0_1 x9_3).f3))).setCell ⟨gb283, 4, none⟩ (.int .i64 ((rd_T47 l0_1 x9_3).f4))).heap[gb269]? = some (.cells #[.int .i64 a0_0, .slice (some ad282) l0_1.length c0_1] 25 (0, 0))) := ⟨np_ BK269.out⟩
         have n3_ : Aside0 ((((((w59.setCell ⟨gb283, 0, none⟩ (.int .i64 ((rd_T47 l0_1 x9_3).f0))).setCell ⟨gb283, 1, none⟩ (.int .i64 ((rd_T47 l0_1 x9_3).f1))).setCell ⟨gb283, 2, none⟩ (.int .i64 ((rd_T47 l0_1 x9_3).f2))).setCell ⟨gb283, 3, none⟩ (.int .i64 ((rd_T47 l0_1 x9_3).f3))).setCell ⟨gb283, 4, none⟩ (.int .i64 ((rd_T47 l0_1 x9_3).f4))).heap[gb283]? = some (.cells #[.int .i64 ((rd_T47 l0_1 x9_3).f0), .int .i64 ((rd_T47 l0_1 x9_3).f1), .int .i64 ((rd_T47 l0_1 x9_3).f2), .int .i64 ((rd_T47 l0_1 x9_3).f3), .int .i64 ((rd_T47 l0_1 x9_3).f4)] 47 (0, 0))) := ⟨np_ BK283.out⟩
         have n4_ : Aside0 (Below w.heap.size w (((((w59.setCell ⟨gb283, 0, none⟩ (.int .i64 ((rd_T47 l0_1 x9_3).f0))).setCell ⟨gb283, 1, none⟩ (.int .i64 ((rd_T47 l0_1 x9_3).f1))).setCell ⟨gb283, 2, none⟩ (.int .i64 ((rd_T47 l0_1 x9_3).f2))).setCell ⟨gb283, 3, none⟩ (.int .i64 ((rd_T47 l0_1 x9_3).f3))).setCell ⟨gb283, 4, none⟩ (.int .i64 ((rd_T47 l0_1 x9_3).f4)))) := ⟨ne_ HB.out⟩
         (try clear HO_5)
         (try clear HO_6)
         (try clear BK269)
         (try clear BK283)
         (try clear HB)
         generalize (((((w59.setCell ⟨gb283, 0, none⟩ (.int .i64 ((rd_T47 l0_1 x9_3).f0))).setCell ⟨gb283, 1, none⟩ (.int .i64 ((rd_T47 l0_1 x9_3).f1))).setCell ⟨gb283, 2, none⟩ (.int .i64 ((rd_T47 l0_1 x9_3).f2))).setCell ⟨gb283, 3, none⟩ (.int .i64 ((rd_T47 l0_1 x9_3).f3))).setCell ⟨gb283, 4, none⟩ (.int .i64 ((rd_T47 l0_1 x9_3).f4))) = w62 at n0_ n1_ n2_ n3_ n4_ ⊢
         have HO_5 := n0_
         have HO_6 := n1_
         have BK269 := n2_
         have BK283 := n3_
         have HB := n4_
         clear n0_ n1_ n2_ n3_ n4_
         replace HO_5 := Aside0.mk (Kd.R_drew HO_5.out)
         replace HO_6 := Aside0.mk (Kd.R_drew HO_6.out)
         replace BK269 := Aside0.mk (blk_drew BK269.out)
         replace BK283 := Aside0.mk (blk_drew BK283.out)
         replace HB := Aside0.mk (below_drew1 HB.out)
         obtain ⟨Ao64, co64, eo64⟩ := Kd.R_slice HO_5.out
         (first | subst eo64 | (injection eo64 with f1_ f2_ f3_; have f4_ := f1_.symm; have f5_ := f3_.symm; clear f1_ f2_ f3_; subst f4_; subst f5_))
         have p284 : 0 ≤ (((rd_T47 l0_1 x9_3).f1) : Int) := of_decide_eq_true nx_
         have q284 : ((rd_T47 l0_1 x9_3).f1) < (t274.length : Int) := of_decide_eq_true nx_
         obtain ⟨ad284, e284, hx284_0⟩ := Kd.at_int (Kd.R_reads' HO_5.out).2.2 ((rd_T47 l0_1 x9_3).f1) p284 q284
         cases e284
         replace p284 := eq_true p284
         replace q284 := eq_true q284
         have p285 : 0 ≤ (((rd_T47 l0_1 x9_3).f0) : Int) := of_decide_eq_true nx_
         have q285 : ((rd_T47 l0_1 x9_3).f0) < (t274.length : Int) := of_decide_eq_true nx_
         obtain ⟨ad285, e285, hx285_0⟩ := Kd.at_int (Kd.R_reads' HO_5.out).2.2 ((rd_T47 l0_1 x9_3).f0) p285 q285
         obtain rfl : ad284 = ad285 := (by injection e285)
         replace p285 := eq_true p285
         replace q285 := eq_true q285
         have p286 : 0 ≤ (((rd_T47 l0_1 x9_3).f1) : Int) := of_decide_eq_true nx_
         have q286 : ((rd_T47 l0_1 x9_3).f1) < (t274.length : Int) := of_decide_eq_true nx_
         obtain ⟨ad286, e286, hx286_0⟩ := Kd.at_int (Kd.R_reads' HO_5.out).2.2 ((rd_T47 l0_1 x9_3).f1) p286 q286
         obtain rfl : ad284 = ad286 := (by injection e286)
         replace p286 := eq_true p286
         replace q286 := eq_true q286
         refine start_ (n := 36) (S := fun w' => w'.cell? ⟨gb283, 0, none⟩ = some (.int .i64 ((rd_T47 l0_1 x9_3).f0)) ∧ w'.cell? ⟨gb283, 1, none⟩ = some (.int .i64 ((rd_T47 l0_1 x9_3).f1)) ∧ w'.cell? ⟨gb283, 2, none⟩ = some (.int .i64 ((rd_T47 l0_1 x9_3).f2)) ∧ w'.cell? ⟨gb283, 3, none⟩ = some (.int .i64 ((rd_T47 l0_1 x9_3).f3)) ∧ w'.cell? ⟨gb283, 4, none⟩ = some (.int .i64 ((rd_T47 l0_1 x9_3).f4)) ∧ w'.cell? (ad284.add (((rd_T47 l0_1 x9_3).f1)).toNat) = some (.int .i64 (rd t274 ((rd_T47 l0_1 x9_3).f1))) ∧ w'.cell? (ad284.add (((rd_T47 l0_1 x9_3).f0)).toNat) = some (.int .i64 (rd t274 ((rd_T47 l0_1 x9_3).f0))) ∧ w'.cell? (ad284.add (((rd_T47 l0_1 x9_3).f1)).toNat) = some (.int .i64 (rd t274 ((rd_T47 l0_1 x9_3).f1)))) (ds := []) z33_0 (by kernel_rfl) rfl rfl ⟨ct_ BK283.out 0, ct_ BK283.out 1, ct_ BK283.out 2, ct_ BK283.out 3, ct_ BK283.out 4, hx284_0, hx285_0, hx286_0⟩ (fun hHeld => ?_); refine with_tabW spec_l3Steps.tab15 spec_l3Steps.bits15 (fun HT_ HW_ => ?_)
         generalize w62.drew = w63 at HO_5 HO_6 BK269 BK283 HB hx284_0 hx285_0 hx286_0 hHeld ⊢
         refine pu_ 0 48 z33_1 HT_.out ?_
         refine pu_ 1 49 z33_2 HT_.out ?_
         refine tk_ 2 50 z33_3 HT_.out HW_.out hHeld ?_
         refine pu_ 3 51 z33_4 HT_.out ?_
         refine tk_ 4 52 z33_5 HT_.out HW_.out hHeld ?_
         refine pu_ 5 53 z33_6 HT_.out ?_
         refine pu_ 6 54 z33_7 HT_.out ?_
         refine pu_ 7 55 z33_8 HT_.out ?_
         refine pu_ 8 56 z33_9 HT_.out ?_
         refine pu_ 12 60 z33_10 HT_.out ?_
         refine pu_ 14 62 z33_11 HT_.out ?_
         refine pu_ 15 63 z33_12 HT_.out ?_
         refine tk_ 9 57 z33_13 HT_.out HW_.out hHeld ?_
         refine pu_ 10 58 z33_14 HT_.out ?_
         refine tk_ 11 59 z33_15 HT_.out HW_.out hHeld ?_
         refine tk_ 13 61 z33_16 HT_.out HW_.out hHeld ?_
         refine tk_ 16 64 z33_17 HT_.out HW_.out hHeld ?_
         refine pu_ 17 65 z33_18 HT_.out ?_
         refine tk_ 18 66 z33_19 HT_.out HW_.out hHeld ?_
         refine pu_ 19 67 z33_20 HT_.out ?_
         refine pu_ 20 68 z33_21 HT_.out ?_
         refine pu_ 21 69 z33_22 HT_.out ?_
         refine pu_ 22 70 z33_23 HT_.out ?_
         refine un_ 23 71 z33_24 HT_.out ?_
         refine un_ 24 72 z33_25 HT_.out ?_
         refine un_ 25 73 z33_37 HT_.out ?_
         refine un_ 26 74 z33_38 HT_.out ?_
         refine un_ 27 75 z33_39 HT_.out ?_
         refine un_ 28 76 z33_40 HT_.out ?_
         refine un_ 29 77 z33_41 HT_.out ?_
         refine un_ 30 78 z33_31 HT_.out ?_
         refine un_ 31 79 z33_32 HT_.out ?_
         refine un_ 32 80 z33_33 HT_.out ?_
         refine un_ 33 81 z33_34 HT_.out ?_
         refine un_ 34 82 z33_35 HT_.out ?_
         refine pu_ 35 83 z33_36 HT_.out ?_
         refine done_ (done_of HT_.out (by kernel_rfl)) ?_
         try go_wp2
         (try simp only [← hl6_3])
         go_roundg k3
         case measure => have := HK1.out; have := HK2.out; have := HK3.out; omega
         case rel => exact ⟨(x6_3), (wrap64 (x9_3 + 1)), ns_, H', ⟨by have := HK1.out; have := HK2.out; have := HK3.out; omega⟩, ⟨by (try simp only [hl6_2]); (try simp only [hl6_3]); (with_reducible repeat (first | apply Kd.R_alloc | apply Kd.R_drewN | apply Kd.R_drew)); exact HO_5.out⟩, ⟨by (try simp only [hl6_2]); (try simp only [hl6_3]); (with_reducible repeat (first | apply Kd.R_alloc | apply Kd.R_drewN | apply Kd.R_drew)); exact HO_6.out⟩, ⟨by (try simp only [hl6_2]); (try simp only [hl6_3]); (with_reducible repeat (first | refine blk_drewN ?_ _ | refine blk_drew ?_ | refine blk_alloc ?_ _)); exact BK269.out⟩, ⟨ne_ HB.out⟩⟩
        rw [if_pos c37] at H
        have c37b0 : ((rd t274 ((rd_T47 l0_1 x9_3).f0)) == (wrap64 (((rd_T47 l0_1 x9_3).f2) + (rd t274 ((rd_T47 l0_1 x9_3).f1))))) = true := beq_iff_eq.mpr c37
        have c37b1 : ((rd t274 ((rd_T47 l0_1 x9_3).f0)) != (wrap64 (((rd_T47 l0_1 x9_3).f2) + (rd t274 ((rd_T47 l0_1 x9_3).f1))))) = false := bne_eq_false_iff_eq.mpr c37
        clear c37
        by_cases c38 : ((rd_T47 l0_1 x9_3).f1) < (x6_3.length : Int)
        rotate_left
        ·rw [if_neg c38] at H
         exact absurd H (by simp)
        rw [if_pos c38] at H
        have c38b0 : decide (((rd_T47 l0_1 x9_3).f1) < (x6_3.length : Int)) = true := decide_eq_true c38
        clear c38
        by_cases c39 : ((rd_T47 l0_1 x9_3).f0) < (x6_3.length : Int)
        rotate_left
        ·rw [if_neg c39] at H
         exact absurd H (by simp)
        rw [if_pos c39] at H
        have c39b0 : decide (((rd_T47 l0_1 x9_3).f0) < (x6_3.length : Int)) = true := decide_eq_true c39
        clear c39
        by_cases c40 : (wrap64 ((rd x6_3 ((rd_T47 l0_1 x9_3).f1)) + 1)) < (rd x6_3 ((rd_T47 l0_1 x9_3).f0))
        rotate_left
        ·rw [if_neg c40] at H
         have c40b0 : decide ((wrap64 ((rd x6_3 ((rd_T47 l0_1 x9_3).f1)) + 1)) < (rd x6_3 ((rd_T47 l0_1 x9_3).f0))) = false := decide_eq_false c40
         clear c40
         have H' := Aside0.mk H
         clear H
         obtain ⟨hcz51_0, hcz51_1, hfz51_0, hfz51_1⟩ := cz2_ BK269.out
         have p282 : 0 ≤ (x9_3 : Int) := of_decide_eq_true nx_
         have q282 : x9_3 < (l0_1.length : Int) := of_decide_eq_true nx_
         obtain ⟨ad282, e282, hx282_0, hx282_1, hx282_2, hx282_3, hx282_4⟩ := at_T47 HR0_1.out x9_3 p282 q282
         cases e282
         replace hx282_0 := hb_ HB.out hx282_0
         replace hx282_1 := hb_ HB.out hx282_1
         replace hx282_2 := hb_ HB.out hx282_2
         replace hx282_3 := hb_ HB.out hx282_3
         replace hx282_4 := hb_ HB.out hx282_4
         replace p282 := eq_true p282
         replace q282 := eq_true q282
         try go_wp2_with (first | ((with_reducible refine gate_dst (N := 10) rfl ?_); refine bx_ 10 #[.int .i64 0, .int .i64 0, .int .i64 0, .int .i64 0, .int .i64 0] 47 ?_; intro gb283 hg w52 hbox hb; have BK283 := Aside0.mk (hbox); have GW283 := Aside0.mk (zs_ hg (ne_ HB.out)); have GE283 := Aside0.mk (zs_ hg (ne_ HB.out)); have NB269_283 := Aside0.mk (nl_ BK269.out hg); have NB283_269 := Aside0.mk (nm_ BK269.out hg); replace HO_5 := kR_ HO_5 hb; replace HO_6 := kR_ HO_6 hb; replace BK269 := kb_ BK269 hb; replace HB := kB_ HB hb; clear hb hbox hg; have hnb53 := NB283_269.out; have hnc53 := NB269_283.out; obtain ⟨hcz54_0, hcz54_1, hcz54_2, hcz54_3, hcz54_4, hfz54_0, hfz54_1, hfz54_2, hfz54_3, hfz54_4⟩ := cz5_ BK283.out))
         have n0_ : Aside0 (Kd.R (Kd.int .i64) 3 (((((w52.setCell ⟨gb283, 0, none⟩ (.int .i64 ((rd_T47 l0_1 x9_3).f0))).setCell ⟨gb283, 1, none⟩ (.int .i64 ((rd_T47 l0_1 x9_3).f1))).setCell ⟨gb283, 2, none⟩ (.int .i64 ((rd_T47 l0_1 x9_3).f2))).setCell ⟨gb283, 3, none⟩ (.int .i64 ((rd_T47 l0_1 x9_3).f3))).setCell ⟨gb283, 4, none⟩ (.int .i64 ((rd_T47 l0_1 x9_3).f4))) w.heap.size (fun k_ => some k_ ≠ (.slice (some ⟨go24, 0, none⟩) x6_3.length co24 : Value).ownBlock) v275 t274) := ⟨by (with_reducible repeat (first | apply Kd.R_alloc | apply Kd.R_drewN | apply Kd.R_drew)); exact Kd.R_mono (rf5_ (Kd.R_types HO_5.out BK283.out (by decide))) (fun _ hk => hk.1)⟩
         have n1_ : Aside0 (Kd.R (Kd.int .i64) 3 (((((w52.setCell ⟨gb283, 0, none⟩ (.int .i64 ((rd_T47 l0_1 x9_3).f0))).setCell ⟨gb283, 1, none⟩ (.int .i64 ((rd_T47 l0_1 x9_3).f1))).setCell ⟨gb283, 2, none⟩ (.int .i64 ((rd_T47 l0_1 x9_3).f2))).setCell ⟨gb283, 3, none⟩ (.int .i64 ((rd_T47 l0_1 x9_3).f3))).setCell ⟨gb283, 4, none⟩ (.int .i64 ((rd_T47 l0_1 x9_3).f4))) w.heap.size (fun k_ => some k_ ≠ (v275 : Value).ownBlock) (.slice (some ⟨go24, 0, none⟩) x6_3.length co24) x6_3) := ⟨by (with_reducible repeat (first | apply Kd.R_alloc | apply Kd.R_drewN | apply Kd.R_drew)); exact Kd.R_mono (rf5_ (Kd.R_types HO_6.out BK283.out (by decide))) (fun _ hk => hk.1)⟩
         have n2_ : Aside0 ((((((w52.setCell ⟨gb283, 0, none⟩ (.int .i64 ((rd_T47 l0_1 x9_3).f0))).setCell ⟨gb283, 1, none⟩ (.int .i64 ((rd_T47 l0_1 x9_3).f1))).setCell ⟨gb283, 2, none⟩ (.int .i64 ((rd_T47 l0_1 x9_3).f2))).setCell ⟨gb283, 3, none⟩ (.int .i64 ((rd_T47 l0_1 x9_3).f3))).setCell ⟨gb283, 4, none⟩ (.int .i64 ((rd_T47 l0_1 x9_3).f4))).heap[gb269]? = some (.cells #[.int .i64 a0_0, .slice (some ad282) l0_1.length c0_1] 25 (0, 0))) := ⟨np_ BK269.out⟩
         have n3_ : Aside0 ((((((w52.setCell ⟨gb283, 0, none⟩ (.int .i64 ((rd_T47 l0_1 x9_3).f0))).setCell ⟨gb283, 1, none⟩ (.int .i64 ((rd_T47 l0_1 x9_3).f1))).setCell ⟨gb283, 2, none⟩ (.int .i64 ((rd_T47 l0_1 x9_3).f2))).setCell ⟨gb283, 3, none⟩ (.int .i64 ((rd_T47 l0_1 x9_3).f3))).setCell ⟨gb283, 4, none⟩ (.int .i64 ((rd_T47 l0_1 x9_3).f4))).heap[gb283]? = some (.cells #[.int .i64 ((rd_T47 l0_1 x9_3).f0), .int .i64 ((rd_T47 l0_1 x9_3).f1), .int .i64 ((rd_T47 l0_1 x9_3).f2), .int .i64 ((rd_T47 l0_1 x9_3).f3), .int .i64 ((rd_T47 l0_1 x9_3).f4)] 47 (0, 0))) := ⟨np_ BK283.out⟩
         have n4_ : Aside0 (Below w.heap.size w (((((w52.setCell ⟨gb283, 0, none⟩ (.int .i64 ((rd_T47 l0_1 x9_3).f0))).setCell ⟨gb283, 1, none⟩ (.int .i64 ((rd_T47 l0_1 x9_3).f1))).setCell ⟨gb283, 2, none⟩ (.int .i64 ((rd_T47 l0_1 x9_3).f2))).setCell ⟨gb283, 3, none⟩ (.int .i64 ((rd_T47 l0_1 x9_3).f3))).setCell ⟨gb283, 4, none⟩ (.int .i64 ((rd_T47 l0_1 x9_3).f4)))) := ⟨ne_ HB.out⟩
         (try clear HO_5)
         (try clear HO_6)
         (try clear BK269)
         (try clear BK283)
         (try clear HB)
         generalize (((((w52.setCell ⟨gb283, 0, none⟩ (.int .i64 ((rd_T47 l0_1 x9_3).f0))).setCell ⟨gb283, 1, none⟩ (.int .i64 ((rd_T47 l0_1 x9_3).f1))).setCell ⟨gb283, 2, none⟩ (.int .i64 ((rd_T47 l0_1 x9_3).f2))).setCell ⟨gb283, 3, none⟩ (.int .i64 ((rd_T47 l0_1 x9_3).f3))).setCell ⟨gb283, 4, none⟩ (.int .i64 ((rd_T47 l0_1 x9_3).f4))) = w55 at n0_ n1_ n2_ n3_ n4_ ⊢
         have HO_5 := n0_
         have HO_6 := n1_
         have BK269 := n2_
         have BK283 := n3_
         have HB := n4_
         clear n0_ n1_ n2_ n3_ n4_
         replace HO_5 := Aside0.mk (Kd.R_drew HO_5.out)
         replace HO_6 := Aside0.mk (Kd.R_drew HO_6.out)
         replace BK269 := Aside0.mk (blk_drew BK269.out)
         replace BK283 := Aside0.mk (blk_drew BK283.out)
         replace HB := Aside0.mk (below_drew1 HB.out)
         obtain ⟨Ao57, co57, eo57⟩ := Kd.R_slice HO_5.out
         (first | subst eo57 | (injection eo57 with f1_ f2_ f3_; have f4_ := f1_.symm; have f5_ := f3_.symm; clear f1_ f2_ f3_; subst f4_; subst f5_))
         have p284 : 0 ≤ (((rd_T47 l0_1 x9_3).f1) : Int) := of_decide_eq_true nx_
         have q284 : ((rd_T47 l0_1 x9_3).f1) < (t274.length : Int) := of_decide_eq_true nx_
         obtain ⟨ad284, e284, hx284_0⟩ := Kd.at_int (Kd.R_reads' HO_5.out).2.2 ((rd_T47 l0_1 x9_3).f1) p284 q284
         cases e284
         replace p284 := eq_true p284
         replace q284 := eq_true q284
         have p285 : 0 ≤ (((rd_T47 l0_1 x9_3).f0) : Int) := of_decide_eq_true nx_
         have q285 : ((rd_T47 l0_1 x9_3).f0) < (t274.length : Int) := of_decide_eq_true nx_
         obtain ⟨ad285, e285, hx285_0⟩ := Kd.at_int (Kd.R_reads' HO_5.out).2.2 ((rd_T47 l0_1 x9_3).f0) p285 q285
         obtain rfl : ad284 = ad285 := (by injection e285)
         replace p285 := eq_true p285
         replace q285 := eq_true q285
         have p286 : 0 ≤ (((rd_T47 l0_1 x9_3).f1) : Int) := of_decide_eq_true nx_
         have q286 : ((rd_T47 l0_1 x9_3).f1) < (t274.length : Int) := of_decide_eq_true nx_
         obtain ⟨ad286, e286, hx286_0⟩ := Kd.at_int (Kd.R_reads' HO_5.out).2.2 ((rd_T47 l0_1 x9_3).f1) p286 q286
         obtain rfl : ad284 = ad286 := (by injection e286)
         replace p286 := eq_true p286
         replace q286 := eq_true q286
         have p287 : 0 ≤ (((rd_T47 l0_1 x9_3).f1) : Int) := of_decide_eq_true nx_
         have q287 : ((rd_T47 l0_1 x9_3).f1) < (x6_3.length : Int) := of_decide_eq_true nx_
         obtain ⟨ad287, e287, hx287_0⟩ := Kd.at_int (Kd.R_reads' HO_6.out).2.2 ((rd_T47 l0_1 x9_3).f1) p287 q287
         obtain rfl : (⟨go24, 0, none⟩ : Addr) = ad287 := (by injection e287)
         (first | simp only [add_plain] at hx287_0 | simp only [add_at] at hx287_0 | simp only [Addr.add, Nat.zero_add] at hx287_0 | skip)
         replace p287 := eq_true p287
         replace q287 := eq_true q287
         have p288 : 0 ≤ (((rd_T47 l0_1 x9_3).f0) : Int) := of_decide_eq_true nx_
         have q288 : ((rd_T47 l0_1 x9_3).f0) < (x6_3.length : Int) := of_decide_eq_true nx_
         obtain ⟨ad288, e288, hx288_0⟩ := Kd.at_int (Kd.R_reads' HO_6.out).2.2 ((rd_T47 l0_1 x9_3).f0) p288 q288
         obtain rfl : (⟨go24, 0, none⟩ : Addr) = ad288 := (by injection e288)
         (first | simp only [add_plain] at hx288_0 | simp only [add_at] at hx288_0 | simp only [Addr.add, Nat.zero_add] at hx288_0 | skip)
         replace p288 := eq_true p288
         replace q288 := eq_true q288
         refine start_ (n := 36) (S := fun w' => w'.cell? ⟨gb283, 0, none⟩ = some (.int .i64 ((rd_T47 l0_1 x9_3).f0)) ∧ w'.cell? ⟨gb283, 1, none⟩ = some (.int .i64 ((rd_T47 l0_1 x9_3).f1)) ∧ w'.cell? ⟨gb283, 2, none⟩ = some (.int .i64 ((rd_T47 l0_1 x9_3).f2)) ∧ w'.cell? ⟨gb283, 3, none⟩ = some (.int .i64 ((rd_T47 l0_1 x9_3).f3)) ∧ w'.cell? ⟨gb283, 4, none⟩ = some (.int .i64 ((rd_T47 l0_1 x9_3).f4)) ∧ w'.cell? (ad284.add (((rd_T47 l0_1 x9_3).f1)).toNat) = some (.int .i64 (rd t274 ((rd_T47 l0_1 x9_3).f1))) ∧ w'.cell? (ad284.add (((rd_T47 l0_1 x9_3).f0)).toNat) = some (.int .i64 (rd t274 ((rd_T47 l0_1 x9_3).f0))) ∧ w'.cell? (ad284.add (((rd_T47 l0_1 x9_3).f1)).toNat) = some (.int .i64 (rd t274 ((rd_T47 l0_1 x9_3).f1))) ∧ w'.cell? ⟨go24, (((rd_T47 l0_1 x9_3).f1)).toNat, none⟩ = some (.int .i64 (rd x6_3 ((rd_T47 l0_1 x9_3).f1))) ∧ w'.cell? ⟨go24, (((rd_T47 l0_1 x9_3).f0)).toNat, none⟩ = some (.int .i64 (rd x6_3 ((rd_T47 l0_1 x9_3).f0)))) (ds := []) z33_0 (by kernel_rfl) rfl rfl ⟨ct_ BK283.out 0, ct_ BK283.out 1, ct_ BK283.out 2, ct_ BK283.out 3, ct_ BK283.out 4, hx284_0, hx285_0, hx286_0, hx287_0, hx288_0⟩ (fun hHeld => ?_); refine with_tabW spec_l3Steps.tab15 spec_l3Steps.bits15 (fun HT_ HW_ => ?_)
         generalize w55.drew = w56 at HO_5 HO_6 BK269 BK283 HB hx284_0 hx285_0 hx286_0 hx287_0 hx288_0 hHeld ⊢
         refine pu_ 0 48 z33_1 HT_.out ?_
         refine pu_ 1 49 z33_2 HT_.out ?_
         refine tk_ 2 50 z33_3 HT_.out HW_.out hHeld ?_
         refine pu_ 3 51 z33_4 HT_.out ?_
         refine tk_ 4 52 z33_5 HT_.out HW_.out hHeld ?_
         refine pu_ 5 53 z33_6 HT_.out ?_
         refine pu_ 6 54 z33_7 HT_.out ?_
         refine pu_ 7 55 z33_8 HT_.out ?_
         refine pu_ 8 56 z33_9 HT_.out ?_
         refine pu_ 12 60 z33_10 HT_.out ?_
         refine pu_ 14 62 z33_11 HT_.out ?_
         refine pu_ 15 63 z33_12 HT_.out ?_
         refine tk_ 9 57 z33_13 HT_.out HW_.out hHeld ?_
         refine pu_ 10 58 z33_14 HT_.out ?_
         refine tk_ 11 59 z33_15 HT_.out HW_.out hHeld ?_
         refine tk_ 13 61 z33_16 HT_.out HW_.out hHeld ?_
         refine tk_ 16 64 z33_17 HT_.out HW_.out hHeld ?_
         refine pu_ 17 65 z33_18 HT_.out ?_
         refine tk_ 18 66 z33_19 HT_.out HW_.out hHeld ?_
         refine pu_ 19 67 z33_20 HT_.out ?_
         refine pu_ 20 68 z33_21 HT_.out ?_
         refine pu_ 21 69 z33_22 HT_.out ?_
         refine pu_ 22 70 z33_23 HT_.out ?_
         refine pu_ 23 71 z33_24 HT_.out ?_
         refine pu_ 24 72 z33_25 HT_.out ?_
         refine pu_ 29 77 z33_26 HT_.out ?_
         refine pu_ 30 78 z33_27 HT_.out ?_
         refine tk_ 25 73 z33_28 HT_.out HW_.out hHeld ?_
         refine pu_ 26 74 z33_29 HT_.out ?_
         refine tk_ 27 75 z33_30 HT_.out HW_.out hHeld ?_
         refine pu_ 28 76 z33_31 HT_.out ?_
         refine tk_ 31 79 z33_32 HT_.out HW_.out hHeld ?_
         refine pu_ 32 80 z33_33 HT_.out ?_
         refine tk_ 33 81 z33_34 HT_.out HW_.out hHeld ?_
         refine pu_ 34 82 z33_35 HT_.out ?_
         refine pu_ 35 83 z33_36 HT_.out ?_
         refine done_ (done_of HT_.out (by kernel_rfl)) ?_
         try go_wp2
         (try simp only [← hl6_3])
         go_roundg k3
         case measure => have := HK1.out; have := HK2.out; have := HK3.out; omega
         case rel => exact ⟨(x6_3), (wrap64 (x9_3 + 1)), ns_, H', ⟨by have := HK1.out; have := HK2.out; have := HK3.out; omega⟩, ⟨by (try simp only [hl6_2]); (try simp only [hl6_3]); (with_reducible repeat (first | apply Kd.R_alloc | apply Kd.R_drewN | apply Kd.R_drew)); exact HO_5.out⟩, ⟨by (try simp only [hl6_2]); (try simp only [hl6_3]); (with_reducible repeat (first | apply Kd.R_alloc | apply Kd.R_drewN | apply Kd.R_drew)); exact HO_6.out⟩, ⟨by (try simp only [hl6_2]); (try simp only [hl6_3]); (with_reducible repeat (first | refine blk_drewN ?_ _ | refine blk_drew ?_ | refine blk_alloc ?_ _)); exact BK269.out⟩, ⟨ne_ HB.out⟩⟩
        rw [if_pos c40] at H
        have c40b0 : decide ((wrap64 ((rd x6_3 ((rd_T47 l0_1 x9_3).f1)) + 1)) < (rd x6_3 ((rd_T47 l0_1 x9_3).f0))) = true := decide_eq_true c40
        clear c40
        obtain ⟨y290, hy290⟩ : ∃ y_ : List Int, y_ = (x6_3.set (((rd_T47 l0_1 x9_3).f0) : Int).toNat (wrap64 ((rd x6_3 ((rd_T47 l0_1 x9_3).f1)) + 1))) := ⟨_, rfl⟩
        replace H : (spec_l3Steps.l2 k3 t274 y290 x8_2 (wrap64 (x9_3 + 1)) a0_0 l0_1) = some r := by first | (rw [hy290]; with_reducible exact H) | (have H2_ := (Option.bind_some _ _).symm.trans H; rw [hy290]; with_reducible exact H2_) | (have H2_ := (Option.bind_some _ _).symm.trans H; with_reducible exact H2_) | with_reducible exact H | (rw [hy290]; exact H) | exact H
        have Ny290 := Aside0.mk hy290
        clear hy290
        have H' := Aside0.mk H
        clear H
        obtain ⟨hcz42_0, hcz42_1, hfz42_0, hfz42_1⟩ := cz2_ BK269.out
        have p282 : 0 ≤ (x9_3 : Int) := of_decide_eq_true nx_
        have q282 : x9_3 < (l0_1.length : Int) := of_decide_eq_true nx_
        obtain ⟨ad282, e282, hx282_0, hx282_1, hx282_2, hx282_3, hx282_4⟩ := at_T47 HR0_1.out x9_3 p282 q282
        cases e282
        replace hx282_0 := hb_ HB.out hx282_0
        replace hx282_1 := hb_ HB.out hx282_1
        replace hx282_2 := hb_ HB.out hx282_2
        replace hx282_3 := hb_ HB.out hx282_3
        replace hx282_4 := hb_ HB.out hx282_4
        replace p282 := eq_true p282
        replace q282 := eq_true q282
        try go_wp2_with (first | ((with_reducible refine gate_dst (N := 10) rfl ?_); refine bx_ 10 #[.int .i64 0, .int .i64 0, .int .i64 0, .int .i64 0, .int .i64 0] 47 ?_; intro gb283 hg w43 hbox hb; have BK283 := Aside0.mk (hbox); have GW283 := Aside0.mk (zs_ hg (ne_ HB.out)); have GE283 := Aside0.mk (zs_ hg (ne_ HB.out)); have NB269_283 := Aside0.mk (nl_ BK269.out hg); have NB283_269 := Aside0.mk (nm_ BK269.out hg); replace HO_5 := kR_ HO_5 hb; replace HO_6 := kR_ HO_6 hb; replace BK269 := kb_ BK269 hb; replace HB := kB_ HB hb; clear hb hbox hg; have hnb44 := NB283_269.out; have hnc44 := NB269_283.out; obtain ⟨hcz45_0, hcz45_1, hcz45_2, hcz45_3, hcz45_4, hfz45_0, hfz45_1, hfz45_2, hfz45_3, hfz45_4⟩ := cz5_ BK283.out))
        have n0_ : Aside0 (Kd.R (Kd.int .i64) 3 (((((w43.setCell ⟨gb283, 0, none⟩ (.int .i64 ((rd_T47 l0_1 x9_3).f0))).setCell ⟨gb283, 1, none⟩ (.int .i64 ((rd_T47 l0_1 x9_3).f1))).setCell ⟨gb283, 2, none⟩ (.int .i64 ((rd_T47 l0_1 x9_3).f2))).setCell ⟨gb283, 3, none⟩ (.int .i64 ((rd_T47 l0_1 x9_3).f3))).setCell ⟨gb283, 4, none⟩ (.int .i64 ((rd_T47 l0_1 x9_3).f4))) w.heap.size (fun k_ => some k_ ≠ (.slice (some ⟨go24, 0, none⟩) x6_3.length co24 : Value).ownBlock) v275 t274) := ⟨by (with_reducible repeat (first | apply Kd.R_alloc | apply Kd.R_drewN | apply Kd.R_drew)); exact Kd.R_mono (rf5_ (Kd.R_types HO_5.out BK283.out (by decide))) (fun _ hk => hk.1)⟩
        have n1_ : Aside0 (Kd.R (Kd.int .i64) 3 (((((w43.setCell ⟨gb283, 0, none⟩ (.int .i64 ((rd_T47 l0_1 x9_3).f0))).setCell ⟨gb283, 1, none⟩ (.int .i64 ((rd_T47 l0_1 x9_3).f1))).setCell ⟨gb283, 2, none⟩ (.int .i64 ((rd_T47 l0_1 x9_3).f2))).setCell ⟨gb283, 3, none⟩ (.int .i64 ((rd_T47 l0_1 x9_3).f3))).setCell ⟨gb283, 4, none⟩ (.int .i64 ((rd_T47 l0_1 x9_3).f4))) w.heap.size (fun k_ => some k_ ≠ (v275 : Value).ownBlock) (.slice (some ⟨go24, 0, none⟩) x6_3.length co24) x6_3) := ⟨by (with_reducible repeat (first | apply Kd.R_alloc | apply Kd.R_drewN | apply Kd.R_drew)); exact Kd.R_mono (rf5_ (Kd.R_types HO_6.out BK283.out (by decide))) (fun _ hk => hk.1)⟩
        have n2_ : Aside0 ((((((w43.setCell ⟨gb283, 0, none⟩ (.int .i64 ((rd_T47 l0_1 x9_3).f0))).setCell ⟨gb283, 1, none⟩ (.int .i64 ((rd_T47 l0_1 x9_3).f1))).setCell ⟨gb283, 2, none⟩ (.int .i64 ((rd_T47 l0_1 x9_3).f2))).setCell ⟨gb283, 3, none⟩ (.int .i64 ((rd_T47 l0_1 x9_3).f3))).setCell ⟨gb283, 4, none⟩ (.int .i64 ((rd_T47 l0_1 x9_3).f4))).heap[gb269]? = some (.cells #[.int .i64 a0_0, .slice (some ad282) l0_1.length c0_1] 25 (0, 0))) := ⟨np_ BK269.out⟩
        have n3_ : Aside0 ((((((w43.setCell ⟨gb283, 0, none⟩ (.int .i64 ((rd_T47 l0_1 x9_3).f0))).setCell ⟨gb283, 1, none⟩ (.int .i64 ((rd_T47 l0_1 x9_3).f1))).setCell ⟨gb283, 2, none⟩ (.int .i64 ((rd_T47 l0_1 x9_3).f2))).setCell ⟨gb283, 3, none⟩ (.int .i64 ((rd_T47 l0_1 x9_3).f3))).setCell ⟨gb283, 4, none⟩ (.int .i64 ((rd_T47 l0_1 x9_3).f4))).heap[gb283]? = some (.cells #[.int .i64 ((rd_T47 l0_1 x9_3).f0), .int .i64 ((rd_T47 l0_1 x9_3).f1), .int .i64 ((rd_T47 l0_1 x9_3).f2), .int .i64 ((rd_T47 l0_1 x9_3).f3), .int .i64 ((rd_T47 l0_1 x9_3).f4)] 47 (0, 0))) := ⟨np_ BK283.out⟩
        have n4_ : Aside0 (Below w.heap.size w (((((w43.setCell ⟨gb283, 0, none⟩ (.int .i64 ((rd_T47 l0_1 x9_3).f0))).setCell ⟨gb283, 1, none⟩ (.int .i64 ((rd_T47 l0_1 x9_3).f1))).setCell ⟨gb283, 2, none⟩ (.int .i64 ((rd_T47 l0_1 x9_3).f2))).setCell ⟨gb283, 3, none⟩ (.int .i64 ((rd_T47 l0_1 x9_3).f3))).setCell ⟨gb283, 4, none⟩ (.int .i64 ((rd_T47 l0_1 x9_3).f4)))) := ⟨ne_ HB.out⟩
        (try clear HO_5)
        (try clear HO_6)
        (try clear BK269)
        (try clear BK283)
        (try clear HB)
        generalize (((((w43.setCell ⟨gb283, 0, none⟩ (.int .i64 ((rd_T47 l0_1 x9_3).f0))).setCell ⟨gb283, 1, none⟩ (.int .i64 ((rd_T47 l0_1 x9_3).f1))).setCell ⟨gb283, 2, none⟩ (.int .i64 ((rd_T47 l0_1 x9_3).f2))).setCell ⟨gb283, 3, none⟩ (.int .i64 ((rd_T47 l0_1 x9_3).f3))).setCell ⟨gb283, 4, none⟩ (.int .i64 ((rd_T47 l0_1 x9_3).f4))) = w46 at n0_ n1_ n2_ n3_ n4_ ⊢
        have HO_5 := n0_
        have HO_6 := n1_
        have BK269 := n2_
        have BK283 := n3_
        have HB := n4_
        clear n0_ n1_ n2_ n3_ n4_
        replace HO_5 := Aside0.mk (Kd.R_drew HO_5.out)
        replace HO_6 := Aside0.mk (Kd.R_drew HO_6.out)
        replace BK269 := Aside0.mk (blk_drew BK269.out)
        replace BK283 := Aside0.mk (blk_drew BK283.out)
        replace HB := Aside0.mk (below_drew1 HB.out)
        obtain ⟨Ao48, co48, eo48⟩ := Kd.R_slice HO_5.out
        (first | subst eo48 | (injection eo48 with f1_ f2_ f3_; have f4_ := f1_.symm; have f5_ := f3_.symm; clear f1_ f2_ f3_; subst f4_; subst f5_))
        have p284 : 0 ≤ (((rd_T47 l0_1 x9_3).f1) : Int) := of_decide_eq_true nx_
        have q284 : ((rd_T47 l0_1 x9_3).f1) < (t274.length : Int) := of_decide_eq_true nx_
        obtain ⟨ad284, e284, hx284_0⟩ := Kd.at_int (Kd.R_reads' HO_5.out).2.2 ((rd_T47 l0_1 x9_3).f1) p284 q284
        cases e284
        replace p284 := eq_true p284
        replace q284 := eq_true q284
        have p285 : 0 ≤ (((rd_T47 l0_1 x9_3).f0) : Int) := of_decide_eq_true nx_
        have q285 : ((rd_T47 l0_1 x9_3).f0) < (t274.length : Int) := of_decide_eq_true nx_
        obtain ⟨ad285, e285, hx285_0⟩ := Kd.at_int (Kd.R_reads' HO_5.out).2.2 ((rd_T47 l0_1 x9_3).f0) p285 q285
        obtain rfl : ad284 = ad285 := (by injection e285)
        replace p285 := eq_true p285
        replace q285 := eq_true q285
        have p286 : 0 ≤ (((rd_T47 l0_1 x9_3).f1) : Int) := of_decide_eq_true nx_
        have q286 : ((rd_T47 l0_1 x9_3).f1) < (t274.length : Int) := of_decide_eq_true nx_
        obtain ⟨ad286, e286, hx286_0⟩ := Kd.at_int (Kd.R_reads' HO_5.out).2.2 ((rd_T47 l0_1 x9_3).f1) p286 q286
        obtain rfl : ad284 = ad286 := (by injection e286)
        replace p286 := eq_true p286
        replace q286 := eq_true q286
        have p287 : 0 ≤ (((rd_T47 l0_1 x9_3).f1) : Int) := of_decide_eq_true nx_
        have q287 : ((rd_T47 l0_1 x9_3).f1) < (x6_3.length : Int) := of_decide_eq_true nx_
        obtain ⟨ad287, e287, hx287_0⟩ := Kd.at_int (Kd.R_reads' HO_6.out).2.2 ((rd_T47 l0_1 x9_3).f1) p287 q287
        obtain rfl : (⟨go24, 0, none⟩ : Addr) = ad287 := (by injection e287)
        (first | simp only [add_plain] at hx287_0 | simp only [add_at] at hx287_0 | simp only [Addr.add, Nat.zero_add] at hx287_0 | skip)
        replace p287 := eq_true p287
        replace q287 := eq_true q287
        have p288 : 0 ≤ (((rd_T47 l0_1 x9_3).f0) : Int) := of_decide_eq_true nx_
        have q288 : ((rd_T47 l0_1 x9_3).f0) < (x6_3.length : Int) := of_decide_eq_true nx_
        obtain ⟨ad288, e288, hx288_0⟩ := Kd.at_int (Kd.R_reads' HO_6.out).2.2 ((rd_T47 l0_1 x9_3).f0) p288 q288
        obtain rfl : (⟨go24, 0, none⟩ : Addr) = ad288 := (by injection e288)
        (first | simp only [add_plain] at hx288_0 | simp only [add_at] at hx288_0 | simp only [Addr.add, Nat.zero_add] at hx288_0 | skip)
        replace p288 := eq_true p288
        replace q288 := eq_true q288
        refine start_ (n := 36) (S := fun w' => w'.cell? ⟨gb283, 0, none⟩ = some (.int .i64 ((rd_T47 l0_1 x9_3).f0)) ∧ w'.cell? ⟨gb283, 1, none⟩ = some (.int .i64 ((rd_T47 l0_1 x9_3).f1)) ∧ w'.cell? ⟨gb283, 2, none⟩ = some (.int .i64 ((rd_T47 l0_1 x9_3).f2)) ∧ w'.cell? ⟨gb283, 3, none⟩ = some (.int .i64 ((rd_T47 l0_1 x9_3).f3)) ∧ w'.cell? ⟨gb283, 4, none⟩ = some (.int .i64 ((rd_T47 l0_1 x9_3).f4)) ∧ w'.cell? (ad284.add (((rd_T47 l0_1 x9_3).f1)).toNat) = some (.int .i64 (rd t274 ((rd_T47 l0_1 x9_3).f1))) ∧ w'.cell? (ad284.add (((rd_T47 l0_1 x9_3).f0)).toNat) = some (.int .i64 (rd t274 ((rd_T47 l0_1 x9_3).f0))) ∧ w'.cell? (ad284.add (((rd_T47 l0_1 x9_3).f1)).toNat) = some (.int .i64 (rd t274 ((rd_T47 l0_1 x9_3).f1))) ∧ w'.cell? ⟨go24, (((rd_T47 l0_1 x9_3).f1)).toNat, none⟩ = some (.int .i64 (rd x6_3 ((rd_T47 l0_1 x9_3).f1))) ∧ w'.cell? ⟨go24, (((rd_T47 l0_1 x9_3).f0)).toNat, none⟩ = some (.int .i64 (rd x6_3 ((rd_T47 l0_1 x9_3).f0)))) (ds := []) z33_0 (by kernel_rfl) rfl rfl ⟨ct_ BK283.out 0, ct_ BK283.out 1, ct_ BK283.out 2, ct_ BK283.out 3, ct_ BK283.out 4, hx284_0, hx285_0, hx286_0, hx287_0, hx288_0⟩ (fun hHeld => ?_); refine with_tabW spec_l3Steps.tab15 spec_l3Steps.bits15 (fun HT_ HW_ => ?_)
        generalize w46.drew = w47 at HO_5 HO_6 BK269 BK283 HB hx284_0 hx285_0 hx286_0 hx287_0 hx288_0 hHeld ⊢
        refine pu_ 0 48 z33_1 HT_.out ?_
        refine pu_ 1 49 z33_2 HT_.out ?_
        refine tk_ 2 50 z33_3 HT_.out HW_.out hHeld ?_
        refine pu_ 3 51 z33_4 HT_.out ?_
        refine tk_ 4 52 z33_5 HT_.out HW_.out hHeld ?_
        refine pu_ 5 53 z33_6 HT_.out ?_
        refine pu_ 6 54 z33_7 HT_.out ?_
        refine pu_ 7 55 z33_8 HT_.out ?_
        refine pu_ 8 56 z33_9 HT_.out ?_
        refine pu_ 12 60 z33_10 HT_.out ?_
        refine pu_ 14 62 z33_11 HT_.out ?_
        refine pu_ 15 63 z33_12 HT_.out ?_
        refine tk_ 9 57 z33_13 HT_.out HW_.out hHeld ?_
        refine pu_ 10 58 z33_14 HT_.out ?_
        refine tk_ 11 59 z33_15 HT_.out HW_.out hHeld ?_
        refine tk_ 13 61 z33_16 HT_.out HW_.out hHeld ?_
        refine tk_ 16 64 z33_17 HT_.out HW_.out hHeld ?_
        refine pu_ 17 65 z33_18 HT_.out ?_
        refine tk_ 18 66 z33_19 HT_.out HW_.out hHeld ?_
        refine pu_ 19 67 z33_20 HT_.out ?_
        refine pu_ 20 68 z33_21 HT_.out ?_
        refine pu_ 21 69 z33_22 HT_.out ?_
        refine pu_ 22 70 z33_23 HT_.out ?_
        refine pu_ 23 71 z33_24 HT_.out ?_
        refine pu_ 24 72 z33_25 HT_.out ?_
        refine pu_ 29 77 z33_26 HT_.out ?_
        refine pu_ 30 78 z33_27 HT_.out ?_
        refine tk_ 25 73 z33_28 HT_.out HW_.out hHeld ?_
        refine pu_ 26 74 z33_29 HT_.out ?_
        refine tk_ 27 75 z33_30 HT_.out HW_.out hHeld ?_
        refine pu_ 28 76 z33_31 HT_.out ?_
        refine tk_ 31 79 z33_32 HT_.out HW_.out hHeld ?_
        refine pu_ 32 80 z33_33 HT_.out ?_
        refine tk_ 33 81 z33_34 HT_.out HW_.out hHeld ?_
        refine pu_ 34 82 z33_35 HT_.out ?_
        refine pu_ 35 83 z33_36 HT_.out ?_
        refine done_ (done_of HT_.out (by kernel_rfl)) ?_
        try go_wp2
        replace HO_5 := Aside0.mk (Kd.R_drew HO_5.out)
        replace HO_6 := Aside0.mk (Kd.R_drew HO_6.out)
        replace BK269 := Aside0.mk (blk_drew BK269.out)
        replace BK283 := Aside0.mk (blk_drew BK283.out)
        replace HB := Aside0.mk (below_drew1 HB.out)
        have p289 : 0 ≤ (((rd_T47 l0_1 x9_3).f1) : Int) := of_decide_eq_true nx_
        have q289 : ((rd_T47 l0_1 x9_3).f1) < (x6_3.length : Int) := of_decide_eq_true nx_
        obtain ⟨ad289, e289, hx289_0⟩ := Kd.at_int (Kd.R_reads' HO_6.out).2.2 ((rd_T47 l0_1 x9_3).f1) p289 q289
        obtain rfl : (⟨go24, 0, none⟩ : Addr) = ad289 := (by injection e289)
        (first | simp only [add_plain] at hx289_0 | simp only [add_at] at hx289_0 | simp only [Addr.add, Nat.zero_add] at hx289_0 | skip)
        replace p289 := eq_true p289
        replace q289 := eq_true q289
        have p41 : 0 ≤ (((rd_T47 l0_1 x9_3).f0) : Int) := of_decide_eq_true nx_
        have q41 : (((rd_T47 l0_1 x9_3).f0) : Int) < ((x6_3.length : Int) : Int) := of_decide_eq_true nx_
        obtain ⟨hx41_0, hf41_0⟩ := Kd.R_celln 0 HO_6.out (((rd_T47 l0_1 x9_3).f0) : Int) p41 q41
        replace p41 := eq_true p41
        replace q41 := eq_true q41
        have HP50 := Kd.R_putn HO_6.out (((rd_T47 l0_1 x9_3).f0) : Int) (wrap64 ((rd x6_3 ((rd_T47 l0_1 x9_3).f1)) + 1))
        rw [← Ny290.out] at HP50
        have HQ50 := Aside0.mk HP50
        clear HP50
        refine start_ (n := 11) (S := fun w' => w'.cell? ⟨gb283, 0, none⟩ = some (.int .i64 ((rd_T47 l0_1 x9_3).f0)) ∧ w'.cell? ⟨gb283, 1, none⟩ = some (.int .i64 ((rd_T47 l0_1 x9_3).f1)) ∧ w'.cell? ⟨gb283, 2, none⟩ = some (.int .i64 ((rd_T47 l0_1 x9_3).f2)) ∧ w'.cell? ⟨gb283, 3, none⟩ = some (.int .i64 ((rd_T47 l0_1 x9_3).f3)) ∧ w'.cell? ⟨gb283, 4, none⟩ = some (.int .i64 ((rd_T47 l0_1 x9_3).f4)) ∧ w'.cell? ⟨go24, (((rd_T47 l0_1 x9_3).f1)).toNat, none⟩ = some (.int .i64 (rd x6_3 ((rd_T47 l0_1 x9_3).f1)))) (ds := [10]) (bm_ 11 0) (by kernel_rfl) rfl rfl ⟨ct_ BK283.out 0, ct_ BK283.out 1, ct_ BK283.out 2, ct_ BK283.out 3, ct_ BK283.out 4, hx289_0⟩ (fun hHeld => ?_); refine with_tabW spec_l3Steps.tab16 spec_l3Steps.bits16 (fun HT_ HW_ => ?_)
        generalize w47.drew = w49 at HO_5 HO_6 BK269 BK283 HB HQ50 hf41_0 hx289_0 hx41_0 hHeld ⊢
        refine pu_ 0 84 (bm_ 11 1) HT_.out ?_
        refine pu_ 1 85 (bm_ 11 3) HT_.out ?_
        refine pu_ 3 87 (bm_ 11 11) HT_.out ?_
        refine pu_ 4 88 (bm_ 11 27) HT_.out ?_
        refine tk_ 2 86 (bm_ 11 31) HT_.out HW_.out hHeld ?_
        refine tk_ 5 89 (bm_ 11 63) HT_.out HW_.out hHeld ?_
        refine pu_ 6 90 (bm_ 11 127) HT_.out ?_
        refine tk_ 7 91 (bm_ 11 255) HT_.out HW_.out hHeld ?_
        refine pu_ 8 92 (bm_ 11 511) HT_.out ?_
        refine pu_ 9 93 (bm_ 11 1023) HT_.out ?_
        refine last_ (i := 10) (N := none) (bm_ 11 2047) rfl rfl (one_of HT_.out (by kernel_rfl)) (by decide) (fun K hK => ?_)
        refine skip_ (w1 := ?_) (by rfl) rfl ?_ ?_
        rotate_left
        ·go_simp
         rfl
        refine hK.out _ _ ?_
        clear hK K
        refine done_ (done_of HT_.out (by kernel_rfl)) ?_
        try go_wp2
        (try simp only [← hl6_3])
        go_roundg k3
        case measure => have := HK1.out; have := HK2.out; have := HK3.out; omega
        case rel => exact ⟨(y290), (wrap64 (x9_3 + 1)), ns_, H', ⟨by have := HK1.out; have := HK2.out; have := HK3.out; omega⟩, ⟨by (try simp only [hl6_2]); (try simp only [hl6_3]); (with_reducible repeat (first | apply Kd.R_alloc | apply Kd.R_drewN | apply Kd.R_drew)); exact Kd.R_mono (Kd.R_far (p := ⟨go24, (((rd_T47 l0_1 x9_3).f0) : Int).toNat, none⟩) (Kd.R_mono HO_5.out (fun k_ hk => (⟨hk, fun e_ => hk (by rw [e_]; rfl)⟩ : _ ∧ k_ ≠ go24))) (fun _ hk => hk.2) (.int .i64 (wrap64 ((rd x6_3 ((rd_T47 l0_1 x9_3).f1)) + 1)))) (fun _ hk => hk.1)⟩, ⟨by (try simp only [hl6_2]); (try simp only [hl6_3]); (with_reducible repeat (first | apply Kd.R_alloc | apply Kd.R_drewN | apply Kd.R_drew)); exact HQ50.out⟩, ⟨by (try simp only [hl6_2]); (try simp only [hl6_3]); (with_reducible repeat (first | refine blk_drewN ?_ _ | refine blk_drew ?_ | refine blk_alloc ?_ _)); refine blk_far ?_ (by have h_ := Kd.R_ne HO_6.out BK269.out (by decide); intro e_; exact h_ (by rw [e_]; rfl)) _; (with_reducible repeat (first | refine blk_drewN ?_ _ | refine blk_drew ?_ | refine blk_alloc ?_ _)); exact BK269.out⟩, ⟨ne_ HB.out⟩⟩
end Go.Proofs.Ytgnnimhhkbbfiaa.Print
