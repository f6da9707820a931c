-- Made by this session's own program (wip/patch_print.py, over the kit's print). Lean checks it.
import Derived.Test.YtbmoonciggfbpaaPrint0
namespace Go.Proofs.Ytbmoonciggfbpaa.Print
open Go.RowKit Go.Proofs.YtbmoonciggfbpaaW.PrintWords Go.Proofs.YtbmoonciggfbpaaW.PrintLast Go.Proofs.YtbmoonciggfbpaaW.PrintMore Go.Proofs.YtbmoonciggfbpaaX
attribute [local go_sem] max2_int min2_int max_two min_two max_three min_three max_four min_four   -- for this text's walks alone
set_option linter.unusedVariables false
set_option linter.unusedSimpArgs false

abbrev z42_0 : Array Bool := #[false, false, false, false, false, false, false, false, false, false, false, false, false, false, false, false, false, false, false, false, false, false]
abbrev z42_1 : Array Bool := #[true, false, false, false, false, false, false, false, false, false, false, false, false, false, false, false, false, false, false, false, false, false]
abbrev z42_2 : Array Bool := #[true, true, false, false, false, false, false, false, false, false, false, false, false, false, false, false, false, false, false, false, false, false]
abbrev z42_3 : Array Bool := #[true, true, true, false, false, false, false, false, false, false, false, false, false, false, false, false, false, false, false, false, false, false]
abbrev z42_4 : Array Bool := #[true, true, true, true, false, false, false, false, false, false, false, false, false, false, false, false, false, false, false, false, false, false]
abbrev z42_5 : Array Bool := #[true, true, true, true, true, false, false, false, false, false, false, false, false, false, false, false, false, false, false, false, false, false]
abbrev z42_6 : Array Bool := #[true, true, true, true, true, true, false, false, false, false, false, false, false, false, false, false, false, false, false, false, false, false]
abbrev z42_7 : Array Bool := #[true, true, true, true, true, true, true, false, false, false, false, false, false, false, false, false, false, false, false, false, false, false]
abbrev z42_8 : Array Bool := #[true, true, true, true, true, true, true, true, false, false, false, false, false, false, false, false, false, false, false, false, false, false]
abbrev z42_9 : Array Bool := #[true, true, true, true, true, true, true, true, true, false, false, false, false, false, false, false, false, false, false, false, false, false]
abbrev z42_10 : Array Bool := #[true, true, true, true, true, true, true, true, true, false, false, false, true, false, false, false, false, false, false, false, false, false]
abbrev z42_11 : Array Bool := #[true, true, true, true, true, true, true, true, true, false, false, false, true, false, false, true, false, false, false, false, false, false]
abbrev z42_12 : Array Bool := #[true, true, true, true, true, true, true, true, true, false, false, false, true, false, false, true, true, false, false, false, false, false]
abbrev z42_13 : Array Bool := #[true, true, true, true, true, true, true, true, true, true, false, false, true, false, false, true, true, false, false, false, false, false]
abbrev z42_14 : Array Bool := #[true, true, true, true, true, true, true, true, true, true, true, false, true, false, false, true, true, false, false, false, false, false]
abbrev z42_15 : Array Bool := #[true, true, true, true, true, true, true, true, true, true, true, true, true, false, false, true, true, false, false, false, false, false]
abbrev z42_16 : Array Bool := #[true, true, true, true, true, true, true, true, true, true, true, true, true, true, false, true, true, false, false, false, false, false]
abbrev z42_17 : Array Bool := #[true, true, true, true, true, true, true, true, true, true, true, true, true, true, true, true, true, false, false, false, false, false]
abbrev z42_18 : Array Bool := #[true, true, true, true, true, true, true, true, true, true, true, true, true, true, true, true, true, true, false, false, false, false]
abbrev z42_19 : Array Bool := #[true, true, true, true, true, true, true, true, true, true, true, true, true, true, true, true, true, true, true, false, false, false]
abbrev z42_20 : Array Bool := #[true, true, true, true, true, true, true, true, true, true, true, true, true, true, true, true, true, true, true, true, false, false]
abbrev z42_21 : Array Bool := #[true, true, true, true, true, true, true, true, true, true, true, true, true, true, true, true, true, true, true, true, true, false]
abbrev z42_22 : Array Bool := #[true, true, true, true, true, true, true, true, true, true, true, true, true, true, true, true, true, true, true, true, true, true]
/-! ### spec_l3All: function 42 -/
mutual
def spec_l3All.l0 : Nat → Int → List Int → Int → Int → List (S33) → Option (List Int)
  | 0, _, _, _, _, _ => none
  | k + 1, x1, x5, x6, x270000, x270001 => if x6 < x270000 then (if 0 ≤ x6 then (if x6 < (x5.length : Int) then (spec_l3All.l0 k x1 (x5.set (x6 : Int).toNat 99999) (wrap64 (x6 + 1)) x270000 x270001) else (none)) else (none)) else (if 0 ≤ x1 then (if x1 < (x5.length : Int) then (spec_l3All.l1 k (x5.set (x1 : Int).toNat 0) 0 x270000 x270001) else (none)) else (none))
def spec_l3All.l1 : Nat → List Int → Int → Int → List (S33) → Option (List Int)
  | 0, _, _, _, _ => none
  | k + 1, x5, x7, x270000, x270001 => if x7 < x270000 then (spec_l3All.l2 k x5 x7 0 x270000 x270001) else (some x5)
def spec_l3All.l2 : Nat → List Int → Int → Int → Int → List (S33) → Option (List Int)
  | 0, _, _, _, _, _ => none
  | k + 1, x5, x7, x8, x270000, x270001 => if x8 < (x270001.length : Int) then (if 0 ≤ x8 then (if 0 ≤ ((rd_T33 x270001 x8).f0) then (if ((rd_T33 x270001 x8).f0) < (x5.length : Int) then (if (rd x5 ((rd_T33 x270001 x8).f0)) < 99999 then (if 0 ≤ ((rd_T33 x270001 x8).f1) then (if ((rd_T33 x270001 x8).f1) < (x5.length : Int) then (if (wrap64 ((rd x5 ((rd_T33 x270001 x8).f0)) + ((rd_T33 x270001 x8).f2))) < (rd x5 ((rd_T33 x270001 x8).f1)) then (spec_l3All.l2 k (x5.set (((rd_T33 x270001 x8).f1) : Int).toNat (wrap64 ((rd x5 ((rd_T33 x270001 x8).f0)) + ((rd_T33 x270001 x8).f2)))) x7 (wrap64 (x8 + 1)) x270000 x270001) else (spec_l3All.l2 k x5 x7 (wrap64 (x8 + 1)) x270000 x270001)) else (none)) else (none)) else (spec_l3All.l2 k x5 x7 (wrap64 (x8 + 1)) x270000 x270001)) else (none)) else (none)) else (none)) else (spec_l3All.l1 k x5 (wrap64 (x7 + 1)) x270000 x270001)
end
def spec_l3All.f (k : Nat) (a0_0 : Int) (l0_1 : List (S33)) (a1 : Int) : Option (List Int) := if 0 ≤ a0_0 then (if (a0_0 : Int).toNat ≤ 35184372088832 then (spec_l3All.l0 k a1 (List.replicate (a0_0 : Int).toNat 0) 0 a0_0 l0_1) else (none)) else (none)
theorem spec_l3All.mono_l : ∀ k, (∀ y0 y1 y2 y3 y4, LeO (spec_l3All.l0 k y0 y1 y2 y3 y4) (spec_l3All.l0 (k + 1) y0 y1 y2 y3 y4)) ∧ (∀ y0 y1 y2 y3, LeO (spec_l3All.l1 k y0 y1 y2 y3) (spec_l3All.l1 (k + 1) y0 y1 y2 y3)) ∧ (∀ y0 y1 y2 y3 y4, LeO (spec_l3All.l2 k y0 y1 y2 y3 y4) (spec_l3All.l2 (k + 1) y0 y1 y2 y3 y4))
  | 0 => ⟨fun _ _ _ _ _ r h => by simp [spec_l3All.l0] at h, fun _ _ _ _ r h => by simp [spec_l3All.l1] at h, fun _ _ _ _ _ r h => by simp [spec_l3All.l2] at h⟩
  | k + 1 => by
    obtain ⟨ih0, ih1, ih2⟩ := spec_l3All.mono_l k
    refine ⟨?_, ?_, ?_⟩
    · intro y0 y1 y2 y3 y4
      unfold spec_l3All.l0
      repeat' first | (with_reducible first | exact ih0 _ _ _ _ _ | exact ih1 _ _ _ _ | exact ih2 _ _ _ _ _ | exact LeO.refl _ | exact LeO.none _ | refine LeO.ite ?_ ?_ | refine LeO.bind ?_ (fun _ => ?_)) | exact ih0 _ _ _ _ _ | exact ih1 _ _ _ _ | exact ih2 _ _ _ _ _ | exact LeO.none _ | refine LeO.ite ?_ ?_ | refine LeO.bind ?_ (fun _ => ?_)
    · intro y0 y1 y2 y3
      unfold spec_l3All.l1
      repeat' first | (with_reducible first | exact ih0 _ _ _ _ _ | exact ih1 _ _ _ _ | exact ih2 _ _ _ _ _ | exact LeO.refl _ | exact LeO.none _ | refine LeO.ite ?_ ?_ | refine LeO.bind ?_ (fun _ => ?_)) | exact ih0 _ _ _ _ _ | exact ih1 _ _ _ _ | exact ih2 _ _ _ _ _ | exact LeO.none _ | refine LeO.ite ?_ ?_ | refine LeO.bind ?_ (fun _ => ?_)
    · intro y0 y1 y2 y3 y4
      unfold spec_l3All.l2
      repeat' first | (with_reducible first | exact ih0 _ _ _ _ _ | exact ih1 _ _ _ _ | exact ih2 _ _ _ _ _ | exact LeO.refl _ | exact LeO.none _ | refine LeO.ite ?_ ?_ | refine LeO.bind ?_ (fun _ => ?_)) | exact ih0 _ _ _ _ _ | exact ih1 _ _ _ _ | exact ih2 _ _ _ _ _ | exact LeO.none _ | refine LeO.ite ?_ ?_ | refine LeO.bind ?_ (fun _ => ?_)
theorem spec_l3All.mono : ∀ a0 a1 a2 k, LeO (spec_l3All.f k a0 a1 a2) (spec_l3All.f (k + 1) a0 a1 a2) := by
  intro a0 a1 a2 k
  obtain ⟨ih0, ih1, ih2⟩ := spec_l3All.mono_l k
  unfold spec_l3All.f
  repeat' first | (with_reducible first | exact ih0 _ _ _ _ _ | exact ih1 _ _ _ _ | exact ih2 _ _ _ _ _ | exact LeO.refl _ | exact LeO.none _ | refine LeO.ite ?_ ?_ | refine LeO.bind ?_ (fun _ => ?_)) | exact ih0 _ _ _ _ _ | exact ih1 _ _ _ _ | exact ih2 _ _ _ _ _ | exact LeO.none _ | refine LeO.ite ?_ ?_ | refine LeO.bind ?_ (fun _ => ?_)
def spec_l3All.T14 : Bool × List (List Nat × List Nat) := (true, [([], []), ([], []), ([1], [1]), ([0, 2], [0, 2]), ([3], [3]), ([4], [4]), ([5], [5]), ([6], [6]), ([6], [6]), ([8, 6], [6, 8]), ([7, 9, 6], [6, 7, 9]), ([10, 6], [6, 10]), ([6], [6]), ([12, 6], [6, 12]), ([11, 13, 6], [6, 11, 13]), ([6], [6]), ([6], [6]), ([16, 6], [6, 16]), ([15, 17, 6], [6, 15, 17]), ([18, 6], [6, 18]), ([14, 19, 6], [6, 14, 19]), ([6, 20], [6, 20])])
def spec_l3All.B14 : List Nat := [0, 0, 2, 7, 15, 31, 63, 127, 127, 383, 1023, 2047, 127, 4223, 16383, 127, 127, 65663, 229503, 491647, 1048575, 2097151]
theorem spec_l3All.tab14 : rtab .any (opsOf Try.f42 14) = spec_l3All.T14 := by kernel_rfl
theorem spec_l3All.bits14 : waitsOk spec_l3All.T14.2 spec_l3All.B14 = true := by kernel_rfl
def spec_l3All.T15 : Bool × List (List Nat × List Nat) := (true, [([], []), ([], []), ([1], [1]), ([], []), ([], []), ([4], [4]), ([3, 5], [3, 5]), ([6], [6]), ([], []), ([8], [8]), ([7, 9], [7, 9]), ([0, 2, 0, 1, 2, 3, 4, 5, 6, 7, 8, 9, 10], [0, 2]), ([11, 10, 0, 1, 2, 3, 4, 5, 6, 7, 8, 9, 10], [10, 11])])
def spec_l3All.B15 : List Nat := [0, 0, 2, 0, 0, 16, 56, 120, 0, 256, 1016, 2047, 4095]
theorem spec_l3All.tab15 : rtab .any (opsOf Try.f42 15) = spec_l3All.T15 := by kernel_rfl
theorem spec_l3All.bits15 : waitsOk spec_l3All.T15.2 spec_l3All.B15 = true := by kernel_rfl
set_option maxHeartbeats 200000000 in
set_option maxRecDepth 100000 in
theorem spec_l3All.calls (k : Nat) (a0_0 : Int) (A0_1 : Option Addr) (c0_1 : Nat) (l0_1 : List (S33)) (a1 : Int) (r : List Int) (w : World) (hr0_1 : Kd.C k33 w A0_1 l0_1.length l0_1) (hc0_1 : l0_1.length ≤ c0_1) (h : spec_l3All.f k a0_0 l0_1 a1 = some r) :
    Calls Try.prog 42 #[.agg #[.int .i64 a0_0, .slice A0_1 l0_1.length c0_1], .int .i64 a1] w fun e w' => ∃ v0_ : Value, e = .returned (v0_) ∧ Kd.R (Kd.int .i64) 3 w' w.heap.size (fun _ => True) v0_ r ∧ Below w.heap.size w w' := by
  have hu25 := Try.underlying25
  have hu33 := Try.underlying33
  have HR0_1 := Aside0.mk hr0_1
  have HC0_1 := Aside0.mk hc0_1
  clear hr0_1 hc0_1
  have HB := Aside0.mk (Below.refl w.heap.size w)
  have H : (if 0 ≤ a0_0 then (if (a0_0 : Int).toNat ≤ 35184372088832 then (spec_l3All.l0 k a1 (List.replicate (a0_0 : Int).toNat 0) 0 a0_0 l0_1) else (none)) else (none)) = some r := h
  clear h
  by_cases c3 : 0 ≤ a0_0
  rotate_left
  ·rw [if_neg c3] at H
   exact absurd H (by simp)

  rw [if_pos c3] at H
  have c3b0 := eq_true c3
  have c3b1 : decide (0 ≤ a0_0) = true := decide_eq_true c3
  clear c3
  by_cases c4 : (a0_0 : Int).toNat ≤ 35184372088832
  rotate_left
  ·rw [if_neg c4] at H
   exact absurd H (by simp)
  rw [if_pos c4] at H
  have c4b0 := eq_true c4
  have c4b1 : decide ((a0_0 : Int).toNat ≤ 35184372088832) = true := decide_eq_true c4
  clear c4
  obtain ⟨y270, hy270⟩ : ∃ y_ : List Int, y_ = (List.replicate (a0_0 : Int).toNat 0) := ⟨_, rfl⟩
  replace H : (spec_l3All.l0 k a1 y270 0 a0_0 l0_1) = some r := by first | (rw [hy270]; with_reducible exact H) | (have H2_ := (Option.bind_some _ _).symm.trans H; rw [hy270]; with_reducible exact H2_) | (have H2_ := (Option.bind_some _ _).symm.trans H; with_reducible exact H2_) | with_reducible exact H | (rw [hy270]; exact H) | exact H
  have Ny270 := Aside0.mk hy270
  clear hy270
  have H' := Aside0.mk H
  clear H
  go_enter Try.func42, Try.ntmps42
  go_wp2_with (first | ((with_reducible refine gate_dst (N := 2) rfl ?_); refine bx_ 2 #[.int .i64 a0_0, .slice A0_1 l0_1.length c0_1] 25 ?_; intro gb269 hg w5 hbox hb; have BK269 := Aside0.mk (hbox); have GW269 := Aside0.mk (zs_ hg (ne_ HB.out)); have GE269 := Aside0.mk (zs_ hg (ne_ HB.out)); replace HB := kB_ HB hb; clear hb hbox hg; obtain ⟨hcz6_0, hcz6_1, hfz6_0, hfz6_1⟩ := cz2_ BK269.out) | ((with_reducible refine gate_dst (N := 12) rfl ?_); refine Kd.R_make (Kd.int .i64) _ 3 rfl (N := 12) rfl 28 _ _ rfl a0_0 rfl rfl Try.underlying28 (.int .i64 0) 8 info3 rfl (by decide) (by omega) 0 (ok := fun _ => True) (okp := fun _ => True) rfl (fun _ hk => hk) trivial (of_decide_eq_true nx_) (Nat.le_trans (Nat.mul_le_mul_right _ (of_decide_eq_true nx_ : a0_0.toNat ≤ 35184372088832)) (by omega)) (Below.refl _ _) (Nat.le_refl _) ?_; intro v271 w7 ho8 hb hg_ hnew_; clear hg_ hnew_; (first | rw [← Ny270.out] at ho8 | (simp only [Int.reduceToNat] at ho8; rw [← Ny270.out] at ho8)); have HO272 := Aside0.mk (Kd.R_lower ho8 (below_size (ne_ HB.out))); replace BK269 := kb_ BK269 hb; replace HB := kB_ HB hb; clear hb ho8))
  go_loopg [6] k (fun kq v6 w' => ∃ (x5_1 : List Int) (x6_1 : Int), v6 = .int .i64 x6_1 ∧ Aside0 (spec_l3All.l0 kq a1 x5_1 x6_1 a0_0 l0_1 = some r) ∧ Aside0 (kq ≤ k) ∧ Aside0 (Kd.R (Kd.int .i64) 3 w' w.heap.size (fun _ => True) v271 x5_1) ∧ Aside0 (w'.heap[gb269]? = some (.cells #[.int .i64 a0_0, (.slice A0_1 l0_1.length c0_1)] 25 (0, 0))) ∧ Aside0 (Below w.heap.size w w'))
  case atStart => exact ⟨(y270), (0), ns_, H', ⟨Nat.le_refl _⟩, ⟨nr_ HO272.out⟩, ⟨nb_ BK269.out⟩, ⟨ne_ HB.out⟩⟩
  case round =>
   clear H'
   try clear p2
   try clear c3
   try clear c3b0
   try clear c3b1
   try clear c4
   try clear c4b0
   try clear c4b1
   try clear hcz6_0
   try clear hcz6_1
   try clear hfz6_0
   try clear hfz6_1
   obtain ⟨x5_1, x6_1, rfl, HA, HK1, HO_5, BK269, HB⟩ := hrel
   cases gk with
   | zero => exact absurd HA.out (by simp [spec_l3All.l0])
   | succ k1 =>
    have H := HA.out
    clear HA
    simp only [spec_l3All.l0] at H
    by_cases c9 : x6_1 < a0_0
    ·rw [if_pos c9] at H
     have c9b0 : decide (x6_1 < a0_0) = true := decide_eq_true c9
     clear c9
     by_cases c10 : 0 ≤ x6_1
     rotate_left
     ·rw [if_neg c10] at H
      exact absurd H (by simp)
     rw [if_pos c10] at H
     have c10b0 : decide (0 ≤ x6_1) = true := decide_eq_true c10
     clear c10
     by_cases c11 : x6_1 < (x5_1.length : Int)
     rotate_left
     ·rw [if_neg c11] at H
      exact absurd H (by simp)
     rw [if_pos c11] at H
     have c11b0 : decide (x6_1 < (x5_1.length : Int)) = true := decide_eq_true c11
     clear c11
     obtain ⟨y273, hy273⟩ : ∃ y_ : List Int, y_ = (x5_1.set (x6_1 : Int).toNat 99999) := ⟨_, rfl⟩
     replace H : (spec_l3All.l0 k1 a1 y273 (wrap64 (x6_1 + 1)) a0_0 l0_1) = some r := by first | (rw [hy273]; with_reducible exact H) | (have H2_ := (Option.bind_some _ _).symm.trans H; rw [hy273]; with_reducible exact H2_) | (have H2_ := (Option.bind_some _ _).symm.trans H; with_reducible exact H2_) | with_reducible exact H | (rw [hy273]; exact H) | exact H
     have Ny273 := Aside0.mk hy273
     clear hy273
     have H' := Aside0.mk H
     clear H
     obtain ⟨hcz13_0, hcz13_1, hfz13_0, hfz13_1⟩ := cz2_ BK269.out
     have p12 : 0 ≤ (x6_1 : Int) := of_decide_eq_true nx_
     have q12 : (x6_1 : Int) < ((x5_1.length : Int) : Int) := of_decide_eq_true nx_
     obtain ⟨go12, co12, eo12, gb12, gl12, cl12, HG12⟩ := Kd.R_form HO_5.out (by omega)
     (first | cases eo12 | (injection eo12 with ea_ en_ ec_; (first | subst ea_ | (injection ea_ with ea_; subst ea_)); subst ec_; clear en_))
     have GB12 := Aside0.mk gb12
     have GG12 := Aside0.mk HG12
     clear gb12 gl12 HG12
     obtain ⟨hx12_0, hf12_0⟩ := Kd.R_celln 0 HO_5.out (x6_1 : Int) p12 q12
     replace p12 := eq_true p12
     replace q12 := eq_true q12
     have HP14 := Kd.R_putg HO_5.out (x6_1 : Int) 99999
     go_wp2_with (first | ((with_reducible refine gate_store (t := 3) (p := 21) rfl ?_); refine store_event (t := 3) (p := 21) (v := ?vo_w15) (w1 := (wr.setCell ⟨go12, (x6_1 : Int).toNat, none⟩ (.int .i64 99999))) ?hg ?ho ?hn ?hr ?_; (case ho => rfl); (case hg => rfl); (case hn => rfl); (case hr => first | (go_simp; done) | (go_simp; rfl)); intro w15 hw; have hg : wr.grownBy w15 (some go12) := (by rw [hw]; exact HP14.2); have hp_ : Kd.R (Kd.int .i64) 3 w15 w.heap.size (fun _ => True) (.slice (some ⟨go12, 0, none⟩) x5_1.length co12) y273 := (by rw [hw, Ny273.out]; exact HP14.1); clear HP14; replace BK269 := Aside0.mk (blk_grown (g := gb269) (o := .cells #[.int .i64 a0_0, .slice A0_1 l0_1.length c0_1] 25 (0, 0)) (nb_ BK269.out) hg (Kd.R_ne HO_5.out BK269.out (by decide))); replace HO_5 := Aside0.mk (hp_); replace HB := Aside0.mk ((by rw [hw]; exact below_set (HB.out) GB12.out : Below w.heap.size w w15)); clear hg hw hp_))
     go_roundg k1
     case measure => have := HK1.out; omega
     case rel => exact ⟨(y273), (wrap64 (x6_1 + 1)), ns_, H', ⟨by have := HK1.out; omega⟩, ⟨nr_ HO_5.out⟩, ⟨nb_ BK269.out⟩, ⟨ne_ HB.out⟩⟩
    rw [if_neg c9] at H
    have c9b0 : decide (x6_1 < a0_0) = false := decide_eq_false c9
    clear c9
    by_cases c16 : 0 ≤ a1
    rotate_left
    ·rw [if_neg c16] at H
     exact absurd H (by simp)
    rw [if_pos c16] at H
    have c16b0 : decide (0 ≤ a1) = true := decide_eq_true c16
    clear c16
    by_cases c17 : a1 < (x5_1.length : Int)
    rotate_left
    ·rw [if_neg c17] at H
     exact absurd H (by simp)
    rw [if_pos c17] at H
    have c17b0 : decide (a1 < (x5_1.length : Int)) = true := decide_eq_true c17
    clear c17
    obtain ⟨y274, hy274⟩ : ∃ y_ : List Int, y_ = (x5_1.set (a1 : Int).toNat 0) := ⟨_, rfl⟩
    replace H : (spec_l3All.l1 k1 y274 0 a0_0 l0_1) = some r := by first | (rw [hy274]; with_reducible exact H) | (have H2_ := (Option.bind_some _ _).symm.trans H; rw [hy274]; with_reducible exact H2_) | (have H2_ := (Option.bind_some _ _).symm.trans H; with_reducible exact H2_) | with_reducible exact H | (rw [hy274]; exact H) | exact H
    have Ny274 := Aside0.mk hy274
    clear hy274
    have H' := Aside0.mk H
    clear H
    obtain ⟨hcz19_0, hcz19_1, hfz19_0, hfz19_1⟩ := cz2_ BK269.out
    have p18 : 0 ≤ (a1 : Int) := of_decide_eq_true nx_
    have q18 : (a1 : Int) < ((x5_1.length : Int) : Int) := of_decide_eq_true nx_
    obtain ⟨go18, co18, eo18, gb18, gl18, cl18, HG18⟩ := Kd.R_form HO_5.out (by omega)
    (first | cases eo18 | (injection eo18 with ea_ en_ ec_; (first | subst ea_ | (injection ea_ with ea_; subst ea_)); subst ec_; clear en_))
    have GB18 := Aside0.mk gb18
    have GG18 := Aside0.mk HG18
    clear gb18 gl18 HG18
    obtain ⟨hx18_0, hf18_0⟩ := Kd.R_celln 0 HO_5.out (a1 : Int) p18 q18
    replace p18 := eq_true p18
    replace q18 := eq_true q18
    have HP20 := Kd.R_putg HO_5.out (a1 : Int) 0
    go_wp2_with (first | ((with_reducible refine gate_store (t := 3) (p := 24) rfl ?_); refine store_event (t := 3) (p := 24) (v := ?vo_w21) (w1 := (wr.setCell ⟨go18, (a1 : Int).toNat, none⟩ (.int .i64 0))) ?hg ?ho ?hn ?hr ?_; (case ho => rfl); (case hg => rfl); (case hn => rfl); (case hr => first | (go_simp; done) | (go_simp; rfl)); intro w21 hw; have hg : wr.grownBy w21 (some go18) := (by rw [hw]; exact HP20.2); have hp_ : Kd.R (Kd.int .i64) 3 w21 w.heap.size (fun _ => True) (.slice (some ⟨go18, 0, none⟩) x5_1.length co18) y274 := (by rw [hw, Ny274.out]; exact HP20.1); clear HP20; replace BK269 := Aside0.mk (blk_grown (g := gb269) (o := .cells #[.int .i64 a0_0, .slice A0_1 l0_1.length c0_1] 25 (0, 0)) (nb_ BK269.out) hg (Kd.R_ne HO_5.out BK269.out (by decide))); replace HO_5 := Aside0.mk (hp_); replace HB := Aside0.mk ((by rw [hw]; exact below_set (HB.out) GB18.out : Below w.heap.size w w21)); clear hg hw hp_))
    go_loopg [7] k1 (fun kq v7 w' => ∃ (x5_2 : List Int) (x7_2 : Int), v7 = .int .i64 x7_2 ∧ Aside0 (spec_l3All.l1 kq x5_2 x7_2 a0_0 l0_1 = some r) ∧ Aside0 (kq ≤ k1) ∧ Aside0 (Kd.R (Kd.int .i64) 3 w' w.heap.size (fun _ => True) (.slice (some ⟨go18, 0, none⟩) x5_1.length co18) x5_2) ∧ Aside0 (w'.heap[gb269]? = some (.cells #[.int .i64 a0_0, (.slice A0_1 l0_1.length c0_1)] 25 (0, 0))) ∧ Aside0 (Below w.heap.size w w'))
    case atStart => exact ⟨(y274), (0), ns_, H', ⟨Nat.le_refl _⟩, ⟨nr_ HO_5.out⟩, ⟨nb_ BK269.out⟩, ⟨ne_ HB.out⟩⟩
    case round =>
     clear H'
     try clear c1
     try clear p1
     try clear q1
     try clear hx1
     try clear p2
     try clear c3
     try clear c3b0
     try clear c3b1
     try clear c4
     try clear c4b0
     try clear c4b1
     try clear p6
     try clear c9
     try clear c9b0
     try clear c10
     try clear c10b0
     try clear c11
     try clear c11b0
     try clear p12
     try clear q12
     try clear hx12
     try clear hf12
     try clear c16
     try clear c16b0
     try clear c17
     try clear c17b0
     try clear p18
     try clear q18
     try clear hx18
     try clear hf18
     try clear hcz13_0
     try clear hcz13_1
     try clear hcz19_0
     try clear hcz19_1
     try clear hcz6_0
     try clear hcz6_1
     try clear hfz13_0
     try clear hfz13_1
     try clear hfz19_0
     try clear hfz19_1
     try clear hfz6_0
     try clear hfz6_1
     try clear hx12_0
     try clear hx18_0
     try clear p12
     try clear p18
     try clear p2
     try clear q12
     try clear q18
     obtain ⟨x5_2, x7_2, rfl, HA, HK2, HO_5, BK269, HB⟩ := hrel
     have hl5_2 := (Kd.R_reads' HO_5.out).1
     rw [hl5_2] at HO_5
     (try simp only [hl5_2])
     (try simp only [hl5_2] at BK269)
     cases gk with
     | zero => exact absurd HA.out (by simp [spec_l3All.l1])
     | succ k2 =>
      have H := HA.out
      clear HA
      simp only [spec_l3All.l1] at H
      by_cases c22 : x7_2 < a0_0
      rotate_left
      ·rw [if_neg c22] at H
       have c22b0 : decide (x7_2 < a0_0) = false := decide_eq_false c22
       clear c22
       obtain rfl := Option.some.inj H
       obtain ⟨hcz54_0, hcz54_1, hfz54_0, hfz54_1⟩ := cz2_ BK269.out
       go_wp2
       go_ret
       exact ⟨_, nw_, nr_ HO_5.out, ne_ HB.out⟩
      rw [if_pos c22] at H
      have c22b0 : decide (x7_2 < a0_0) = true := decide_eq_true c22
      clear c22
      have H' := Aside0.mk H
      clear H
      obtain ⟨hcz23_0, hcz23_1, hfz23_0, hfz23_1⟩ := cz2_ BK269.out
      go_wp2
      go_loopg [8] k2 (fun kq v8 w' => ∃ (x5_3 : List Int) (x8_3 : Int), v8 = .int .i64 x8_3 ∧ Aside0 (spec_l3All.l2 kq x5_3 x7_2 x8_3 a0_0 l0_1 = some r) ∧ Aside0 (kq ≤ k2) ∧ Aside0 (Kd.R (Kd.int .i64) 3 w' w.heap.size (fun _ => True) (.slice (some ⟨go18, 0, none⟩) x5_2.length co18) x5_3) ∧ Aside0 (w'.heap[gb269]? = some (.cells #[.int .i64 a0_0, (.slice A0_1 l0_1.length c0_1)] 25 (0, 0))) ∧ Aside0 (Below w.heap.size w w'))
      case atStart => exact ⟨(x5_2), (0), ns_, H', ⟨Nat.le_refl _⟩, ⟨by (try simp only [hl5_2]); (with_reducible repeat (first | apply Kd.R_alloc | apply Kd.R_drewN | apply Kd.R_drew)); exact HO_5.out⟩, ⟨by (try simp only [hl5_2]); (with_reducible repeat (first | refine blk_drewN ?_ _ | refine blk_drew ?_ | refine blk_alloc ?_ _)); exact BK269.out⟩, ⟨ne_ HB.out⟩⟩
      case round =>
       clear H'
       try clear c1
       try clear p1
       try clear q1
       try clear hx1
       try clear c2
       try clear p2
       try clear c3
       try clear c3b0
       try clear c3b1
       try clear c4
       try clear c4b0
       try clear c4b1
       try clear p6
       try clear c9
       try clear c9b0
       try clear c10
       try clear c10b0
       try clear c11
       try clear c11b0
       try clear p12
       try clear q12
       try clear hx12
       try clear hf12
       try clear c16
       try clear c16b0
       try clear c17
       try clear c17b0
       try clear p18
       try clear q18
       try clear hx18
       try clear hf18
       try clear c22
       try clear c22b0
       try clear hcz13_0
       try clear hcz13_1
       try clear hcz19_0
       try clear hcz19_1
       try clear hcz23_0
       try clear hcz23_1
       try clear hcz6_0
       try clear hcz6_1
       try clear hfz13_0
       try clear hfz13_1
       try clear hfz19_0
       try clear hfz19_1
       try clear hfz23_0
       try clear hfz23_1
       try clear hfz6_0
       try clear hfz6_1
       try clear hx12_0
       try clear hx18_0
       try clear p1
       try clear p12
       try clear p18
       try clear p2
       try clear p6
       try clear q1
       try clear q12
       try clear q18
       obtain ⟨x5_3, x8_3, rfl, HA, HK3, HO_5, BK269, HB⟩ := hrel
       have hl5_3 := (Kd.R_reads' HO_5.out).1
       rw [hl5_3] at HO_5
       (try simp only [hl5_3])
       (try simp only [hl5_3] at BK269)
       cases gk with
       | zero => exact absurd HA.out (by simp [spec_l3All.l2])
       | succ k3 =>
        have H := HA.out
        clear HA
        simp only [spec_l3All.l2] at H
        by_cases c24 : x8_3 < (l0_1.length : Int)
        rotate_left
        ·rw [if_neg c24] at H
         have c24b0 : decide (x8_3 < (l0_1.length : Int)) = false := decide_eq_false c24
         clear c24
         have H' := Aside0.mk H
         clear H
         obtain ⟨hcz53_0, hcz53_1, hfz53_0, hfz53_1⟩ := cz2_ BK269.out
         go_wp2
         (try simp only [← hl5_2, ← hl5_3])
         go_roundg k3
         case measure => have := HK1.out; have := HK2.out; have := HK3.out; omega
         case rel => exact ⟨(x5_3), (wrap64 (x7_2 + 1)), ns_, H', ⟨by have := HK1.out; have := HK2.out; have := HK3.out; omega⟩, ⟨by (try simp only [hl5_2]); (try simp only [hl5_3]); (with_reducible repeat (first | apply Kd.R_alloc | apply Kd.R_drewN | apply Kd.R_drew)); exact HO_5.out⟩, ⟨by (try simp only [hl5_2]); (try simp only [hl5_3]); (with_reducible repeat (first | refine blk_drewN ?_ _ | refine blk_drew ?_ | refine blk_alloc ?_ _)); exact BK269.out⟩, ⟨ne_ HB.out⟩⟩
        rw [if_pos c24] at H
        have c24b0 : decide (x8_3 < (l0_1.length : Int)) = true := decide_eq_true c24
        clear c24
        by_cases c25 : 0 ≤ x8_3
        rotate_left
        ·rw [if_neg c25] at H
         exact absurd H (by simp)
        rw [if_pos c25] at H
        have c25b0 : decide (0 ≤ x8_3) = true := decide_eq_true c25
        clear c25
        by_cases c26 : 0 ≤ ((rd_T33 l0_1 x8_3).f0)
        rotate_left
        ·rw [if_neg c26] at H
         exact absurd H (by simp)
        rw [if_pos c26] at H
        have c26b0 : decide (0 ≤ ((rd_T33 l0_1 x8_3).f0)) = true := decide_eq_true c26
        clear c26
        by_cases c27 : ((rd_T33 l0_1 x8_3).f0) < (x5_3.length : Int)
        rotate_left
        ·rw [if_neg c27] at H
         exact absurd H (by simp)
        rw [if_pos c27] at H
        have c27b0 : decide (((rd_T33 l0_1 x8_3).f0) < (x5_3.length : Int)) = true := decide_eq_true c27
        clear c27
        by_cases c28 : (rd x5_3 ((rd_T33 l0_1 x8_3).f0)) < 99999
        rotate_left
        ·rw [if_neg c28] at H
         have c28b0 : decide ((rd x5_3 ((rd_T33 l0_1 x8_3).f0)) < 99999) = false := decide_eq_false c28
         clear c28
         have H' := Aside0.mk H
         clear H
         obtain ⟨hcz47_0, hcz47_1, hfz47_0, hfz47_1⟩ := cz2_ BK269.out
         have p275 : 0 ≤ (x8_3 : Int) := of_decide_eq_true nx_
         have q275 : x8_3 < (l0_1.length : Int) := of_decide_eq_true nx_
         obtain ⟨ad275, e275, hx275_0, hx275_1, hx275_2, hx275_3, hx275_4⟩ := at_T33 HR0_1.out x8_3 p275 q275
         cases e275
         replace hx275_0 := hb_ HB.out hx275_0
         replace hx275_1 := hb_ HB.out hx275_1
         replace hx275_2 := hb_ HB.out hx275_2
         replace hx275_3 := hb_ HB.out hx275_3
         replace hx275_4 := hb_ HB.out hx275_4
         replace p275 := eq_true p275
         replace q275 := eq_true q275
         try go_wp2_with (first | ((with_reducible refine gate_dst (N := 9) rfl ?_); refine bx_ 9 #[.int .i64 0, .int .i64 0, .int .i64 0, .int .i64 0, .int .i64 0] 33 ?_; intro gb276 hg w48 hbox hb; have BK276 := Aside0.mk (hbox); have GW276 := Aside0.mk (zs_ hg (ne_ HB.out)); have GE276 := Aside0.mk (zs_ hg (ne_ HB.out)); have NB269_276 := Aside0.mk (nl_ BK269.out hg); have NB276_269 := Aside0.mk (nm_ BK269.out hg); replace HO_5 := kR_ HO_5 hb; replace BK269 := kb_ BK269 hb; replace HB := kB_ HB hb; clear hb hbox hg; have hnb49 := NB276_269.out; have hnc49 := NB269_276.out; obtain ⟨hcz50_0, hcz50_1, hcz50_2, hcz50_3, hcz50_4, hfz50_0, hfz50_1, hfz50_2, hfz50_3, hfz50_4⟩ := cz5_ BK276.out))
         have n0_ : Aside0 (Kd.R (Kd.int .i64) 3 (((((w48.setCell ⟨gb276, 0, none⟩ (.int .i64 ((rd_T33 l0_1 x8_3).f0))).setCell ⟨gb276, 1, none⟩ (.int .i64 ((rd_T33 l0_1 x8_3).f1))).setCell ⟨gb276, 2, none⟩ (.int .i64 ((rd_T33 l0_1 x8_3).f2))).setCell ⟨gb276, 3, none⟩ (.int .i64 ((rd_T33 l0_1 x8_3).f3))).setCell ⟨gb276, 4, none⟩ (.int .i64 ((rd_T33 l0_1 x8_3).f4))) w.heap.size (fun _ => True) (.slice (some ⟨go18, 0, none⟩) x5_3.length co18) x5_3) := ⟨by (with_reducible repeat (first | apply Kd.R_alloc | apply Kd.R_drewN | apply Kd.R_drew)); exact Kd.R_mono (rf5_ (Kd.R_types HO_5.out BK276.out (by decide))) (fun _ hk => trivial)⟩
         have n1_ : Aside0 ((((((w48.setCell ⟨gb276, 0, none⟩ (.int .i64 ((rd_T33 l0_1 x8_3).f0))).setCell ⟨gb276, 1, none⟩ (.int .i64 ((rd_T33 l0_1 x8_3).f1))).setCell ⟨gb276, 2, none⟩ (.int .i64 ((rd_T33 l0_1 x8_3).f2))).setCell ⟨gb276, 3, none⟩ (.int .i64 ((rd_T33 l0_1 x8_3).f3))).setCell ⟨gb276, 4, none⟩ (.int .i64 ((rd_T33 l0_1 x8_3).f4))).heap[gb269]? = some (.cells #[.int .i64 a0_0, .slice (some ad275) l0_1.length c0_1] 25 (0, 0))) := ⟨np_ BK269.out⟩
         have n2_ : Aside0 ((((((w48.setCell ⟨gb276, 0, none⟩ (.int .i64 ((rd_T33 l0_1 x8_3).f0))).setCell ⟨gb276, 1, none⟩ (.int .i64 ((rd_T33 l0_1 x8_3).f1))).setCell ⟨gb276, 2, none⟩ (.int .i64 ((rd_T33 l0_1 x8_3).f2))).setCell ⟨gb276, 3, none⟩ (.int .i64 ((rd_T33 l0_1 x8_3).f3))).setCell ⟨gb276, 4, none⟩ (.int .i64 ((rd_T33 l0_1 x8_3).f4))).heap[gb276]? = some (.cells #[.int .i64 ((rd_T33 l0_1 x8_3).f0), .int .i64 ((rd_T33 l0_1 x8_3).f1), .int .i64 ((rd_T33 l0_1 x8_3).f2), .int .i64 ((rd_T33 l0_1 x8_3).f3), .int .i64 ((rd_T33 l0_1 x8_3).f4)] 33 (0, 0))) := ⟨np_ BK276.out⟩
         have n3_ : Aside0 (Below w.heap.size w (((((w48.setCell ⟨gb276, 0, none⟩ (.int .i64 ((rd_T33 l0_1 x8_3).f0))).setCell ⟨gb276, 1, none⟩ (.int .i64 ((rd_T33 l0_1 x8_3).f1))).setCell ⟨gb276, 2, none⟩ (.int .i64 ((rd_T33 l0_1 x8_3).f2))).setCell ⟨gb276, 3, none⟩ (.int .i64 ((rd_T33 l0_1 x8_3).f3))).setCell ⟨gb276, 4, none⟩ (.int .i64 ((rd_T33 l0_1 x8_3).f4)))) := ⟨ne_ HB.out⟩
         (try clear HO_5)
         (try clear BK269)
         (try clear BK276)
         (try clear HB)
         generalize (((((w48.setCell ⟨gb276, 0, none⟩ (.int .i64 ((rd_T33 l0_1 x8_3).f0))).setCell ⟨gb276, 1, none⟩ (.int .i64 ((rd_T33 l0_1 x8_3).f1))).setCell ⟨gb276, 2, none⟩ (.int .i64 ((rd_T33 l0_1 x8_3).f2))).setCell ⟨gb276, 3, none⟩ (.int .i64 ((rd_T33 l0_1 x8_3).f3))).setCell ⟨gb276, 4, none⟩ (.int .i64 ((rd_T33 l0_1 x8_3).f4))) = w51 at n0_ n1_ n2_ n3_ ⊢
         have HO_5 := n0_
         have BK269 := n1_
         have BK276 := n2_
         have HB := n3_
         clear n0_ n1_ n2_ n3_
         have n0_ := Aside0.mk (Kd.R_drew HO_5.out)
         have n1_ := Aside0.mk (blk_drew BK269.out)
         have n2_ := Aside0.mk (blk_drew BK276.out)
         have n3_ := Aside0.mk (below_drew1 HB.out)
         clear HO_5
         clear BK269
         clear BK276
         clear HB
         have HO_5 := n0_
         have BK269 := n1_
         have BK276 := n2_
         have HB := n3_
         clear n0_ n1_ n2_ n3_
         have p277 : 0 ≤ (((rd_T33 l0_1 x8_3).f0) : Int) := of_decide_eq_true nx_
         have q277 : ((rd_T33 l0_1 x8_3).f0) < (x5_3.length : Int) := of_decide_eq_true nx_
         obtain ⟨ad277, e277, hx277_0⟩ := Kd.at_int (Kd.R_reads' HO_5.out).2.2 ((rd_T33 l0_1 x8_3).f0) p277 q277
         obtain rfl : (⟨go18, 0, none⟩ : Addr) = ad277 := (by injection e277)
         (first | simp only [add_plain] at hx277_0 | simp only [add_at] at hx277_0 | simp only [Addr.add, Nat.zero_add] at hx277_0 | skip)
         replace p277 := eq_true p277
         replace q277 := eq_true q277
         refine start_ (n := 22) (S := fun w' => w'.cell? ⟨gb276, 0, none⟩ = some (.int .i64 ((rd_T33 l0_1 x8_3).f0)) ∧ w'.cell? ⟨gb276, 1, none⟩ = some (.int .i64 ((rd_T33 l0_1 x8_3).f1)) ∧ w'.cell? ⟨gb276, 2, none⟩ = some (.int .i64 ((rd_T33 l0_1 x8_3).f2)) ∧ w'.cell? ⟨gb276, 3, none⟩ = some (.int .i64 ((rd_T33 l0_1 x8_3).f3)) ∧ w'.cell? ⟨gb276, 4, none⟩ = some (.int .i64 ((rd_T33 l0_1 x8_3).f4)) ∧ w'.cell? ⟨go18, (((rd_T33 l0_1 x8_3).f0)).toNat, none⟩ = some (.int .i64 (rd x5_3 ((rd_T33 l0_1 x8_3).f0)))) (ds := []) z42_0 (by kernel_rfl) rfl rfl ⟨(blk_cell BK276.out 0).trans rfl, (blk_cell BK276.out 1).trans rfl, (blk_cell BK276.out 2).trans rfl, (blk_cell BK276.out 3).trans rfl, (blk_cell BK276.out 4).trans rfl, hx277_0⟩ (fun hHeld => ?_); refine with_tabW spec_l3All.tab14 spec_l3All.bits14 (fun HT_ HW_ => ?_)
         generalize w51.drew = w52 at HO_5 BK269 BK276 HB hx277_0 hHeld ⊢
         refine pu_ 0 43 z42_1 HT_.out ?_
         refine pu_ 1 44 z42_2 HT_.out ?_
         refine tk_ 2 45 z42_3 HT_.out HW_.out hHeld ?_
         refine pu_ 3 46 z42_4 HT_.out ?_
         refine tk_ 4 47 z42_5 HT_.out HW_.out hHeld ?_
         refine pu_ 5 48 z42_6 HT_.out ?_
         refine pu_ 6 49 z42_7 HT_.out ?_
         refine un_ 7 50 z42_8 HT_.out ?_
         refine un_ 8 51 z42_9 HT_.out ?_
         refine un_ 9 52 #[true, true, true, true, true, true, true, true, true, true, false, false, false, false, false, false, false, false, false, false, false, false] HT_.out ?_
         refine un_ 10 53 #[true, true, true, true, true, true, true, true, true, true, true, false, false, false, false, false, false, false, false, false, false, false] HT_.out ?_
         refine un_ 11 54 #[true, true, true, true, true, true, true, true, true, true, true, true, false, false, false, false, false, false, false, false, false, false] HT_.out ?_
         refine un_ 12 55 #[true, true, true, true, true, true, true, true, true, true, true, true, true, false, false, false, false, false, false, false, false, false] HT_.out ?_
         refine un_ 13 56 #[true, true, true, true, true, true, true, true, true, true, true, true, true, true, false, false, false, false, false, false, false, false] HT_.out ?_
         refine un_ 14 57 #[true, true, true, true, true, true, true, true, true, true, true, true, true, true, true, false, false, false, false, false, false, false] HT_.out ?_
         refine un_ 15 58 #[true, true, true, true, true, true, true, true, true, true, true, true, true, true, true, true, false, false, false, false, false, false] HT_.out ?_
         refine un_ 16 59 z42_17 HT_.out ?_
         refine un_ 17 60 z42_18 HT_.out ?_
         refine un_ 18 61 z42_19 HT_.out ?_
         refine un_ 19 62 z42_20 HT_.out ?_
         refine un_ 20 63 z42_21 HT_.out ?_
         refine pu_ 21 64 z42_22 HT_.out ?_
         refine done_ (done_of HT_.out (by kernel_rfl)) ?_
         try go_wp2
         (try simp only [← hl5_3])
         go_roundg k3
         case measure => have := HK1.out; have := HK2.out; have := HK3.out; omega
         case rel => exact ⟨(x5_3), (wrap64 (x8_3 + 1)), ns_, H', ⟨by have := HK1.out; have := HK2.out; have := HK3.out; omega⟩, ⟨by (try simp only [hl5_2]); (try simp only [hl5_3]); (with_reducible repeat (first | apply Kd.R_alloc | apply Kd.R_drewN | apply Kd.R_drew)); exact HO_5.out⟩, ⟨by (try simp only [hl5_2]); (try simp only [hl5_3]); (with_reducible repeat (first | refine blk_drewN ?_ _ | refine blk_drew ?_ | refine blk_alloc ?_ _)); exact BK269.out⟩, ⟨ne_ HB.out⟩⟩
        rw [if_pos c28] at H
        have c28b0 : decide ((rd x5_3 ((rd_T33 l0_1 x8_3).f0)) < 99999) = true := decide_eq_true c28
        clear c28
        by_cases c29 : 0 ≤ ((rd_T33 l0_1 x8_3).f1)
        rotate_left
        ·rw [if_neg c29] at H
         exact absurd H (by simp)
        rw [if_pos c29] at H
        have c29b0 : decide (0 ≤ ((rd_T33 l0_1 x8_3).f1)) = true := decide_eq_true c29
        clear c29
        by_cases c30 : ((rd_T33 l0_1 x8_3).f1) < (x5_3.length : Int)
        rotate_left
        ·rw [if_neg c30] at H
         exact absurd H (by simp)
        rw [if_pos c30] at H
        have c30b0 : decide (((rd_T33 l0_1 x8_3).f1) < (x5_3.length : Int)) = true := decide_eq_true c30
        clear c30
        by_cases c31 : (wrap64 ((rd x5_3 ((rd_T33 l0_1 x8_3).f0)) + ((rd_T33 l0_1 x8_3).f2))) < (rd x5_3 ((rd_T33 l0_1 x8_3).f1))
        rotate_left
        ·rw [if_neg c31] at H
         have c31b0 : decide ((wrap64 ((rd x5_3 ((rd_T33 l0_1 x8_3).f0)) + ((rd_T33 l0_1 x8_3).f2))) < (rd x5_3 ((rd_T33 l0_1 x8_3).f1))) = false := decide_eq_false c31
         clear c31
         have H' := Aside0.mk H
         clear H
         obtain ⟨hcz41_0, hcz41_1, hfz41_0, hfz41_1⟩ := cz2_ BK269.out
         have p275 : 0 ≤ (x8_3 : Int) := of_decide_eq_true nx_
         have q275 : x8_3 < (l0_1.length : Int) := of_decide_eq_true nx_
         obtain ⟨ad275, e275, hx275_0, hx275_1, hx275_2, hx275_3, hx275_4⟩ := at_T33 HR0_1.out x8_3 p275 q275
         cases e275
         replace hx275_0 := hb_ HB.out hx275_0
         replace hx275_1 := hb_ HB.out hx275_1
         replace hx275_2 := hb_ HB.out hx275_2
         replace hx275_3 := hb_ HB.out hx275_3
         replace hx275_4 := hb_ HB.out hx275_4
         replace p275 := eq_true p275
         replace q275 := eq_true q275
         try go_wp2_with (first | ((with_reducible refine gate_dst (N := 9) rfl ?_); refine bx_ 9 #[.int .i64 0, .int .i64 0, .int .i64 0, .int .i64 0, .int .i64 0] 33 ?_; intro gb276 hg w42 hbox hb; have BK276 := Aside0.mk (hbox); have GW276 := Aside0.mk (zs_ hg (ne_ HB.out)); have GE276 := Aside0.mk (zs_ hg (ne_ HB.out)); have NB269_276 := Aside0.mk (nl_ BK269.out hg); have NB276_269 := Aside0.mk (nm_ BK269.out hg); replace HO_5 := kR_ HO_5 hb; replace BK269 := kb_ BK269 hb; replace HB := kB_ HB hb; clear hb hbox hg; have hnb43 := NB276_269.out; have hnc43 := NB269_276.out; obtain ⟨hcz44_0, hcz44_1, hcz44_2, hcz44_3, hcz44_4, hfz44_0, hfz44_1, hfz44_2, hfz44_3, hfz44_4⟩ := cz5_ BK276.out))
         have n0_ : Aside0 (Kd.R (Kd.int .i64) 3 (((((w42.setCell ⟨gb276, 0, none⟩ (.int .i64 ((rd_T33 l0_1 x8_3).f0))).setCell ⟨gb276, 1, none⟩ (.int .i64 ((rd_T33 l0_1 x8_3).f1))).setCell ⟨gb276, 2, none⟩ (.int .i64 ((rd_T33 l0_1 x8_3).f2))).setCell ⟨gb276, 3, none⟩ (.int .i64 ((rd_T33 l0_1 x8_3).f3))).setCell ⟨gb276, 4, none⟩ (.int .i64 ((rd_T33 l0_1 x8_3).f4))) w.heap.size (fun _ => True) (.slice (some ⟨go18, 0, none⟩) x5_3.length co18) x5_3) := ⟨by (with_reducible repeat (first | apply Kd.R_alloc | apply Kd.R_drewN | apply Kd.R_drew)); exact Kd.R_mono (rf5_ (Kd.R_types HO_5.out BK276.out (by decide))) (fun _ hk => trivial)⟩
         have n1_ : Aside0 ((((((w42.setCell ⟨gb276, 0, none⟩ (.int .i64 ((rd_T33 l0_1 x8_3).f0))).setCell ⟨gb276, 1, none⟩ (.int .i64 ((rd_T33 l0_1 x8_3).f1))).setCell ⟨gb276, 2, none⟩ (.int .i64 ((rd_T33 l0_1 x8_3).f2))).setCell ⟨gb276, 3, none⟩ (.int .i64 ((rd_T33 l0_1 x8_3).f3))).setCell ⟨gb276, 4, none⟩ (.int .i64 ((rd_T33 l0_1 x8_3).f4))).heap[gb269]? = some (.cells #[.int .i64 a0_0, .slice (some ad275) l0_1.length c0_1] 25 (0, 0))) := ⟨np_ BK269.out⟩
         have n2_ : Aside0 ((((((w42.setCell ⟨gb276, 0, none⟩ (.int .i64 ((rd_T33 l0_1 x8_3).f0))).setCell ⟨gb276, 1, none⟩ (.int .i64 ((rd_T33 l0_1 x8_3).f1))).setCell ⟨gb276, 2, none⟩ (.int .i64 ((rd_T33 l0_1 x8_3).f2))).setCell ⟨gb276, 3, none⟩ (.int .i64 ((rd_T33 l0_1 x8_3).f3))).setCell ⟨gb276, 4, none⟩ (.int .i64 ((rd_T33 l0_1 x8_3).f4))).heap[gb276]? = some (.cells #[.int .i64 ((rd_T33 l0_1 x8_3).f0), .int .i64 ((rd_T33 l0_1 x8_3).f1), .int .i64 ((rd_T33 l0_1 x8_3).f2), .int .i64 ((rd_T33 l0_1 x8_3).f3), .int .i64 ((rd_T33 l0_1 x8_3).f4)] 33 (0, 0))) := ⟨np_ BK276.out⟩
         have n3_ : Aside0 (Below w.heap.size w (((((w42.setCell ⟨gb276, 0, none⟩ (.int .i64 ((rd_T33 l0_1 x8_3).f0))).setCell ⟨gb276, 1, none⟩ (.int .i64 ((rd_T33 l0_1 x8_3).f1))).setCell ⟨gb276, 2, none⟩ (.int .i64 ((rd_T33 l0_1 x8_3).f2))).setCell ⟨gb276, 3, none⟩ (.int .i64 ((rd_T33 l0_1 x8_3).f3))).setCell ⟨gb276, 4, none⟩ (.int .i64 ((rd_T33 l0_1 x8_3).f4)))) := ⟨ne_ HB.out⟩
         (try clear HO_5)
         (try clear BK269)
         (try clear BK276)
         (try clear HB)
         generalize (((((w42.setCell ⟨gb276, 0, none⟩ (.int .i64 ((rd_T33 l0_1 x8_3).f0))).setCell ⟨gb276, 1, none⟩ (.int .i64 ((rd_T33 l0_1 x8_3).f1))).setCell ⟨gb276, 2, none⟩ (.int .i64 ((rd_T33 l0_1 x8_3).f2))).setCell ⟨gb276, 3, none⟩ (.int .i64 ((rd_T33 l0_1 x8_3).f3))).setCell ⟨gb276, 4, none⟩ (.int .i64 ((rd_T33 l0_1 x8_3).f4))) = w45 at n0_ n1_ n2_ n3_ ⊢
         have HO_5 := n0_
         have BK269 := n1_
         have BK276 := n2_
         have HB := n3_
         clear n0_ n1_ n2_ n3_
         have n0_ := Aside0.mk (Kd.R_drew HO_5.out)
         have n1_ := Aside0.mk (blk_drew BK269.out)
         have n2_ := Aside0.mk (blk_drew BK276.out)
         have n3_ := Aside0.mk (below_drew1 HB.out)
         clear HO_5
         clear BK269
         clear BK276
         clear HB
         have HO_5 := n0_
         have BK269 := n1_
         have BK276 := n2_
         have HB := n3_
         clear n0_ n1_ n2_ n3_
         have p277 : 0 ≤ (((rd_T33 l0_1 x8_3).f0) : Int) := of_decide_eq_true nx_
         have q277 : ((rd_T33 l0_1 x8_3).f0) < (x5_3.length : Int) := of_decide_eq_true nx_
         obtain ⟨ad277, e277, hx277_0⟩ := Kd.at_int (Kd.R_reads' HO_5.out).2.2 ((rd_T33 l0_1 x8_3).f0) p277 q277
         obtain rfl : (⟨go18, 0, none⟩ : Addr) = ad277 := (by injection e277)
         (first | simp only [add_plain] at hx277_0 | simp only [add_at] at hx277_0 | simp only [Addr.add, Nat.zero_add] at hx277_0 | skip)
         replace p277 := eq_true p277
         replace q277 := eq_true q277
         have p278 : 0 ≤ (((rd_T33 l0_1 x8_3).f0) : Int) := of_decide_eq_true nx_
         have q278 : ((rd_T33 l0_1 x8_3).f0) < (x5_3.length : Int) := of_decide_eq_true nx_
         obtain ⟨ad278, e278, hx278_0⟩ := Kd.at_int (Kd.R_reads' HO_5.out).2.2 ((rd_T33 l0_1 x8_3).f0) p278 q278
         obtain rfl : (⟨go18, 0, none⟩ : Addr) = ad278 := (by injection e278)
         (first | simp only [add_plain] at hx278_0 | simp only [add_at] at hx278_0 | simp only [Addr.add, Nat.zero_add] at hx278_0 | skip)
         replace p278 := eq_true p278
         replace q278 := eq_true q278
         have p279 : 0 ≤ (((rd_T33 l0_1 x8_3).f1) : Int) := of_decide_eq_true nx_
         have q279 : ((rd_T33 l0_1 x8_3).f1) < (x5_3.length : Int) := of_decide_eq_true nx_
         obtain ⟨ad279, e279, hx279_0⟩ := Kd.at_int (Kd.R_reads' HO_5.out).2.2 ((rd_T33 l0_1 x8_3).f1) p279 q279
         obtain rfl : (⟨go18, 0, none⟩ : Addr) = ad279 := (by injection e279)
         (first | simp only [add_plain] at hx279_0 | simp only [add_at] at hx279_0 | simp only [Addr.add, Nat.zero_add] at hx279_0 | skip)
         replace p279 := eq_true p279
         replace q279 := eq_true q279
         refine start_ (n := 22) (S := fun w' => w'.cell? ⟨gb276, 0, none⟩ = some (.int .i64 ((rd_T33 l0_1 x8_3).f0)) ∧ w'.cell? ⟨gb276, 1, none⟩ = some (.int .i64 ((rd_T33 l0_1 x8_3).f1)) ∧ w'.cell? ⟨gb276, 2, none⟩ = some (.int .i64 ((rd_T33 l0_1 x8_3).f2)) ∧ w'.cell? ⟨gb276, 3, none⟩ = some (.int .i64 ((rd_T33 l0_1 x8_3).f3)) ∧ w'.cell? ⟨gb276, 4, none⟩ = some (.int .i64 ((rd_T33 l0_1 x8_3).f4)) ∧ w'.cell? ⟨go18, (((rd_T33 l0_1 x8_3).f0)).toNat, none⟩ = some (.int .i64 (rd x5_3 ((rd_T33 l0_1 x8_3).f0))) ∧ w'.cell? ⟨go18, (((rd_T33 l0_1 x8_3).f0)).toNat, none⟩ = some (.int .i64 (rd x5_3 ((rd_T33 l0_1 x8_3).f0))) ∧ w'.cell? ⟨go18, (((rd_T33 l0_1 x8_3).f1)).toNat, none⟩ = some (.int .i64 (rd x5_3 ((rd_T33 l0_1 x8_3).f1)))) (ds := []) z42_0 (by kernel_rfl) rfl rfl ⟨(blk_cell BK276.out 0).trans rfl, (blk_cell BK276.out 1).trans rfl, (blk_cell BK276.out 2).trans rfl, (blk_cell BK276.out 3).trans rfl, (blk_cell BK276.out 4).trans rfl, hx277_0, hx278_0, hx279_0⟩ (fun hHeld => ?_); refine with_tabW spec_l3All.tab14 spec_l3All.bits14 (fun HT_ HW_ => ?_)
         generalize w45.drew = w46 at HO_5 BK269 BK276 HB hx277_0 hx278_0 hx279_0 hHeld ⊢
         refine pu_ 0 43 z42_1 HT_.out ?_
         refine pu_ 1 44 z42_2 HT_.out ?_
         refine tk_ 2 45 z42_3 HT_.out HW_.out hHeld ?_
         refine pu_ 3 46 z42_4 HT_.out ?_
         refine tk_ 4 47 z42_5 HT_.out HW_.out hHeld ?_
         refine pu_ 5 48 z42_6 HT_.out ?_
         refine pu_ 6 49 z42_7 HT_.out ?_
         refine pu_ 7 50 z42_8 HT_.out ?_
         refine pu_ 8 51 z42_9 HT_.out ?_
         refine pu_ 12 55 z42_10 HT_.out ?_
         refine pu_ 15 58 z42_11 HT_.out ?_
         refine pu_ 16 59 z42_12 HT_.out ?_
         refine tk_ 9 52 z42_13 HT_.out HW_.out hHeld ?_
         refine pu_ 10 53 z42_14 HT_.out ?_
         refine tk_ 11 54 z42_15 HT_.out HW_.out hHeld ?_
         refine tk_ 13 56 z42_16 HT_.out HW_.out hHeld ?_
         refine pu_ 14 57 z42_17 HT_.out ?_
         refine tk_ 17 60 z42_18 HT_.out HW_.out hHeld ?_
         refine pu_ 18 61 z42_19 HT_.out ?_
         refine tk_ 19 62 z42_20 HT_.out HW_.out hHeld ?_
         refine pu_ 20 63 z42_21 HT_.out ?_
         refine pu_ 21 64 z42_22 HT_.out ?_
         refine done_ (done_of HT_.out (by kernel_rfl)) ?_
         try go_wp2
         (try simp only [← hl5_3])
         go_roundg k3
         case measure => have := HK1.out; have := HK2.out; have := HK3.out; omega
         case rel => exact ⟨(x5_3), (wrap64 (x8_3 + 1)), ns_, H', ⟨by have := HK1.out; have := HK2.out; have := HK3.out; omega⟩, ⟨by (try simp only [hl5_2]); (try simp only [hl5_3]); (with_reducible repeat (first | apply Kd.R_alloc | apply Kd.R_drewN | apply Kd.R_drew)); exact HO_5.out⟩, ⟨by (try simp only [hl5_2]); (try simp only [hl5_3]); (with_reducible repeat (first | refine blk_drewN ?_ _ | refine blk_drew ?_ | refine blk_alloc ?_ _)); exact BK269.out⟩, ⟨ne_ HB.out⟩⟩
        rw [if_pos c31] at H
        have c31b0 : decide ((wrap64 ((rd x5_3 ((rd_T33 l0_1 x8_3).f0)) + ((rd_T33 l0_1 x8_3).f2))) < (rd x5_3 ((rd_T33 l0_1 x8_3).f1))) = true := decide_eq_true c31
        clear c31
        obtain ⟨y281, hy281⟩ : ∃ y_ : List Int, y_ = (x5_3.set (((rd_T33 l0_1 x8_3).f1) : Int).toNat (wrap64 ((rd x5_3 ((rd_T33 l0_1 x8_3).f0)) + ((rd_T33 l0_1 x8_3).f2)))) := ⟨_, rfl⟩
        replace H : (spec_l3All.l2 k3 y281 x7_2 (wrap64 (x8_3 + 1)) a0_0 l0_1) = some r := by first | (rw [hy281]; with_reducible exact H) | (have H2_ := (Option.bind_some _ _).symm.trans H; rw [hy281]; with_reducible exact H2_) | (have H2_ := (Option.bind_some _ _).symm.trans H; with_reducible exact H2_) | with_reducible exact H | (rw [hy281]; exact H) | exact H
        have Ny281 := Aside0.mk hy281
        clear hy281
        have H' := Aside0.mk H
        clear H
        obtain ⟨hcz33_0, hcz33_1, hfz33_0, hfz33_1⟩ := cz2_ BK269.out
        have p275 : 0 ≤ (x8_3 : Int) := of_decide_eq_true nx_
        have q275 : x8_3 < (l0_1.length : Int) := of_decide_eq_true nx_
        obtain ⟨ad275, e275, hx275_0, hx275_1, hx275_2, hx275_3, hx275_4⟩ := at_T33 HR0_1.out x8_3 p275 q275
        cases e275
        replace hx275_0 := hb_ HB.out hx275_0
        replace hx275_1 := hb_ HB.out hx275_1
        replace hx275_2 := hb_ HB.out hx275_2
        replace hx275_3 := hb_ HB.out hx275_3
        replace hx275_4 := hb_ HB.out hx275_4
        replace p275 := eq_true p275
        replace q275 := eq_true q275
        try go_wp2_with (first | ((with_reducible refine gate_dst (N := 9) rfl ?_); refine bx_ 9 #[.int .i64 0, .int .i64 0, .int .i64 0, .int .i64 0, .int .i64 0] 33 ?_; intro gb276 hg w34 hbox hb; have BK276 := Aside0.mk (hbox); have GW276 := Aside0.mk (zs_ hg (ne_ HB.out)); have GE276 := Aside0.mk (zs_ hg (ne_ HB.out)); have NB269_276 := Aside0.mk (nl_ BK269.out hg); have NB276_269 := Aside0.mk (nm_ BK269.out hg); replace HO_5 := kR_ HO_5 hb; replace BK269 := kb_ BK269 hb; replace HB := kB_ HB hb; clear hb hbox hg; have hnb35 := NB276_269.out; have hnc35 := NB269_276.out; obtain ⟨hcz36_0, hcz36_1, hcz36_2, hcz36_3, hcz36_4, hfz36_0, hfz36_1, hfz36_2, hfz36_3, hfz36_4⟩ := cz5_ BK276.out))
        have n0_ : Aside0 (Kd.R (Kd.int .i64) 3 (((((w34.setCell ⟨gb276, 0, none⟩ (.int .i64 ((rd_T33 l0_1 x8_3).f0))).setCell ⟨gb276, 1, none⟩ (.int .i64 ((rd_T33 l0_1 x8_3).f1))).setCell ⟨gb276, 2, none⟩ (.int .i64 ((rd_T33 l0_1 x8_3).f2))).setCell ⟨gb276, 3, none⟩ (.int .i64 ((rd_T33 l0_1 x8_3).f3))).setCell ⟨gb276, 4, none⟩ (.int .i64 ((rd_T33 l0_1 x8_3).f4))) w.heap.size (fun _ => True) (.slice (some ⟨go18, 0, none⟩) x5_3.length co18) x5_3) := ⟨by (with_reducible repeat (first | apply Kd.R_alloc | apply Kd.R_drewN | apply Kd.R_drew)); exact Kd.R_mono (rf5_ (Kd.R_types HO_5.out BK276.out (by decide))) (fun _ hk => trivial)⟩
        have n1_ : Aside0 ((((((w34.setCell ⟨gb276, 0, none⟩ (.int .i64 ((rd_T33 l0_1 x8_3).f0))).setCell ⟨gb276, 1, none⟩ (.int .i64 ((rd_T33 l0_1 x8_3).f1))).setCell ⟨gb276, 2, none⟩ (.int .i64 ((rd_T33 l0_1 x8_3).f2))).setCell ⟨gb276, 3, none⟩ (.int .i64 ((rd_T33 l0_1 x8_3).f3))).setCell ⟨gb276, 4, none⟩ (.int .i64 ((rd_T33 l0_1 x8_3).f4))).heap[gb269]? = some (.cells #[.int .i64 a0_0, .slice (some ad275) l0_1.length c0_1] 25 (0, 0))) := ⟨np_ BK269.out⟩
        have n2_ : Aside0 ((((((w34.setCell ⟨gb276, 0, none⟩ (.int .i64 ((rd_T33 l0_1 x8_3).f0))).setCell ⟨gb276, 1, none⟩ (.int .i64 ((rd_T33 l0_1 x8_3).f1))).setCell ⟨gb276, 2, none⟩ (.int .i64 ((rd_T33 l0_1 x8_3).f2))).setCell ⟨gb276, 3, none⟩ (.int .i64 ((rd_T33 l0_1 x8_3).f3))).setCell ⟨gb276, 4, none⟩ (.int .i64 ((rd_T33 l0_1 x8_3).f4))).heap[gb276]? = some (.cells #[.int .i64 ((rd_T33 l0_1 x8_3).f0), .int .i64 ((rd_T33 l0_1 x8_3).f1), .int .i64 ((rd_T33 l0_1 x8_3).f2), .int .i64 ((rd_T33 l0_1 x8_3).f3), .int .i64 ((rd_T33 l0_1 x8_3).f4)] 33 (0, 0))) := ⟨np_ BK276.out⟩
        have n3_ : Aside0 (Below w.heap.size w (((((w34.setCell ⟨gb276, 0, none⟩ (.int .i64 ((rd_T33 l0_1 x8_3).f0))).setCell ⟨gb276, 1, none⟩ (.int .i64 ((rd_T33 l0_1 x8_3).f1))).setCell ⟨gb276, 2, none⟩ (.int .i64 ((rd_T33 l0_1 x8_3).f2))).setCell ⟨gb276, 3, none⟩ (.int .i64 ((rd_T33 l0_1 x8_3).f3))).setCell ⟨gb276, 4, none⟩ (.int .i64 ((rd_T33 l0_1 x8_3).f4)))) := ⟨ne_ HB.out⟩
        (try clear HO_5)
        (try clear BK269)
        (try clear BK276)
        (try clear HB)
        generalize (((((w34.setCell ⟨gb276, 0, none⟩ (.int .i64 ((rd_T33 l0_1 x8_3).f0))).setCell ⟨gb276, 1, none⟩ (.int .i64 ((rd_T33 l0_1 x8_3).f1))).setCell ⟨gb276, 2, none⟩ (.int .i64 ((rd_T33 l0_1 x8_3).f2))).setCell ⟨gb276, 3, none⟩ (.int .i64 ((rd_T33 l0_1 x8_3).f3))).setCell ⟨gb276, 4, none⟩ (.int .i64 ((rd_T33 l0_1 x8_3).f4))) = w37 at n0_ n1_ n2_ n3_ ⊢
        have HO_5 := n0_
        have BK269 := n1_
        have BK276 := n2_
        have HB := n3_
        clear n0_ n1_ n2_ n3_
        have n0_ := Aside0.mk (Kd.R_drew HO_5.out)
        have n1_ := Aside0.mk (blk_drew BK269.out)
        have n2_ := Aside0.mk (blk_drew BK276.out)
        have n3_ := Aside0.mk (below_drew1 HB.out)
        clear HO_5
        clear BK269
        clear BK276
        clear HB
        have HO_5 := n0_
        have BK269 := n1_
        have BK276 := n2_
        have HB := n3_
        clear n0_ n1_ n2_ n3_
        have p277 : 0 ≤ (((rd_T33 l0_1 x8_3).f0) : Int) := of_decide_eq_true nx_
        have q277 : ((rd_T33 l0_1 x8_3).f0) < (x5_3.length : Int) := of_decide_eq_true nx_
        obtain ⟨ad277, e277, hx277_0⟩ := Kd.at_int (Kd.R_reads' HO_5.out).2.2 ((rd_T33 l0_1 x8_3).f0) p277 q277
        obtain rfl : (⟨go18, 0, none⟩ : Addr) = ad277 := (by injection e277)
        (first | simp only [add_plain] at hx277_0 | simp only [add_at] at hx277_0 | simp only [Addr.add, Nat.zero_add] at hx277_0 | skip)
        replace p277 := eq_true p277
        replace q277 := eq_true q277
        have p278 : 0 ≤ (((rd_T33 l0_1 x8_3).f0) : Int) := of_decide_eq_true nx_
        have q278 : ((rd_T33 l0_1 x8_3).f0) < (x5_3.length : Int) := of_decide_eq_true nx_
        obtain ⟨ad278, e278, hx278_0⟩ := Kd.at_int (Kd.R_reads' HO_5.out).2.2 ((rd_T33 l0_1 x8_3).f0) p278 q278
        obtain rfl : (⟨go18, 0, none⟩ : Addr) = ad278 := (by injection e278)
        (first | simp only [add_plain] at hx278_0 | simp only [add_at] at hx278_0 | simp only [Addr.add, Nat.zero_add] at hx278_0 | skip)
        replace p278 := eq_true p278
        replace q278 := eq_true q278
        have p279 : 0 ≤ (((rd_T33 l0_1 x8_3).f1) : Int) := of_decide_eq_true nx_
        have q279 : ((rd_T33 l0_1 x8_3).f1) < (x5_3.length : Int) := of_decide_eq_true nx_
        obtain ⟨ad279, e279, hx279_0⟩ := Kd.at_int (Kd.R_reads' HO_5.out).2.2 ((rd_T33 l0_1 x8_3).f1) p279 q279
        obtain rfl : (⟨go18, 0, none⟩ : Addr) = ad279 := (by injection e279)
        (first | simp only [add_plain] at hx279_0 | simp only [add_at] at hx279_0 | simp only [Addr.add, Nat.zero_add] at hx279_0 | skip)
        replace p279 := eq_true p279
        replace q279 := eq_true q279
        refine start_ (n := 22) (S := fun w' => w'.cell? ⟨gb276, 0, none⟩ = some (.int .i64 ((rd_T33 l0_1 x8_3).f0)) ∧ w'.cell? ⟨gb276, 1, none⟩ = some (.int .i64 ((rd_T33 l0_1 x8_3).f1)) ∧ w'.cell? ⟨gb276, 2, none⟩ = some (.int .i64 ((rd_T33 l0_1 x8_3).f2)) ∧ w'.cell? ⟨gb276, 3, none⟩ = some (.int .i64 ((rd_T33 l0_1 x8_3).f3)) ∧ w'.cell? ⟨gb276, 4, none⟩ = some (.int .i64 ((rd_T33 l0_1 x8_3).f4)) ∧ w'.cell? ⟨go18, (((rd_T33 l0_1 x8_3).f0)).toNat, none⟩ = some (.int .i64 (rd x5_3 ((rd_T33 l0_1 x8_3).f0))) ∧ w'.cell? ⟨go18, (((rd_T33 l0_1 x8_3).f0)).toNat, none⟩ = some (.int .i64 (rd x5_3 ((rd_T33 l0_1 x8_3).f0))) ∧ w'.cell? ⟨go18, (((rd_T33 l0_1 x8_3).f1)).toNat, none⟩ = some (.int .i64 (rd x5_3 ((rd_T33 l0_1 x8_3).f1)))) (ds := []) z42_0 (by kernel_rfl) rfl rfl ⟨(blk_cell BK276.out 0).trans rfl, (blk_cell BK276.out 1).trans rfl, (blk_cell BK276.out 2).trans rfl, (blk_cell BK276.out 3).trans rfl, (blk_cell BK276.out 4).trans rfl, hx277_0, hx278_0, hx279_0⟩ (fun hHeld => ?_); refine with_tabW spec_l3All.tab14 spec_l3All.bits14 (fun HT_ HW_ => ?_)
        generalize w37.drew = w38 at HO_5 BK269 BK276 HB hx277_0 hx278_0 hx279_0 hHeld ⊢
        refine pu_ 0 43 z42_1 HT_.out ?_
        refine pu_ 1 44 z42_2 HT_.out ?_
        refine tk_ 2 45 z42_3 HT_.out HW_.out hHeld ?_
        refine pu_ 3 46 z42_4 HT_.out ?_
        refine tk_ 4 47 z42_5 HT_.out HW_.out hHeld ?_
        refine pu_ 5 48 z42_6 HT_.out ?_
        refine pu_ 6 49 z42_7 HT_.out ?_
        refine pu_ 7 50 z42_8 HT_.out ?_
        refine pu_ 8 51 z42_9 HT_.out ?_
        refine pu_ 12 55 z42_10 HT_.out ?_
        refine pu_ 15 58 z42_11 HT_.out ?_
        refine pu_ 16 59 z42_12 HT_.out ?_
        refine tk_ 9 52 z42_13 HT_.out HW_.out hHeld ?_
        refine pu_ 10 53 z42_14 HT_.out ?_
        refine tk_ 11 54 z42_15 HT_.out HW_.out hHeld ?_
        refine tk_ 13 56 z42_16 HT_.out HW_.out hHeld ?_
        refine pu_ 14 57 z42_17 HT_.out ?_
        refine tk_ 17 60 z42_18 HT_.out HW_.out hHeld ?_
        refine pu_ 18 61 z42_19 HT_.out ?_
        refine tk_ 19 62 z42_20 HT_.out HW_.out hHeld ?_
        refine pu_ 20 63 z42_21 HT_.out ?_
        refine pu_ 21 64 z42_22 HT_.out ?_
        refine done_ (done_of HT_.out (by kernel_rfl)) ?_
        try go_wp2
        have n0_ := Aside0.mk (Kd.R_drew HO_5.out)
        have n1_ := Aside0.mk (blk_drew BK269.out)
        have n2_ := Aside0.mk (blk_drew BK276.out)
        have n3_ := Aside0.mk (below_drew1 HB.out)
        clear HO_5
        clear BK269
        clear BK276
        clear HB
        have HO_5 := n0_
        have BK269 := n1_
        have BK276 := n2_
        have HB := n3_
        clear n0_ n1_ n2_ n3_
        have p280 : 0 ≤ (((rd_T33 l0_1 x8_3).f0) : Int) := of_decide_eq_true nx_
        have q280 : ((rd_T33 l0_1 x8_3).f0) < (x5_3.length : Int) := of_decide_eq_true nx_
        obtain ⟨ad280, e280, hx280_0⟩ := Kd.at_int (Kd.R_reads' HO_5.out).2.2 ((rd_T33 l0_1 x8_3).f0) p280 q280
        obtain rfl : (⟨go18, 0, none⟩ : Addr) = ad280 := (by injection e280)
        (first | simp only [add_plain] at hx280_0 | simp only [add_at] at hx280_0 | simp only [Addr.add, Nat.zero_add] at hx280_0 | skip)
        replace p280 := eq_true p280
        replace q280 := eq_true q280
        have p32 : 0 ≤ (((rd_T33 l0_1 x8_3).f1) : Int) := of_decide_eq_true nx_
        have q32 : (((rd_T33 l0_1 x8_3).f1) : Int) < ((x5_3.length : Int) : Int) := of_decide_eq_true nx_
        obtain ⟨hx32_0, hf32_0⟩ := Kd.R_celln 0 HO_5.out (((rd_T33 l0_1 x8_3).f1) : Int) p32 q32
        replace p32 := eq_true p32
        replace q32 := eq_true q32
        have HP40 := Kd.R_putn HO_5.out (((rd_T33 l0_1 x8_3).f1) : Int) (wrap64 ((rd x5_3 ((rd_T33 l0_1 x8_3).f0)) + ((rd_T33 l0_1 x8_3).f2)))
        rw [← Ny281.out] at HP40
        have HQ40 := Aside0.mk HP40
        clear HP40
        refine start_ (n := 13) (S := fun w' => w'.cell? ⟨gb276, 0, none⟩ = some (.int .i64 ((rd_T33 l0_1 x8_3).f0)) ∧ w'.cell? ⟨gb276, 1, none⟩ = some (.int .i64 ((rd_T33 l0_1 x8_3).f1)) ∧ w'.cell? ⟨gb276, 2, none⟩ = some (.int .i64 ((rd_T33 l0_1 x8_3).f2)) ∧ w'.cell? ⟨gb276, 3, none⟩ = some (.int .i64 ((rd_T33 l0_1 x8_3).f3)) ∧ w'.cell? ⟨gb276, 4, none⟩ = some (.int .i64 ((rd_T33 l0_1 x8_3).f4)) ∧ w'.cell? ⟨go18, (((rd_T33 l0_1 x8_3).f0)).toNat, none⟩ = some (.int .i64 (rd x5_3 ((rd_T33 l0_1 x8_3).f0)))) (ds := [12]) #[false, false, false, false, false, false, false, false, false, false, false, false, false] (by kernel_rfl) rfl rfl ⟨(blk_cell BK276.out 0).trans rfl, (blk_cell BK276.out 1).trans rfl, (blk_cell BK276.out 2).trans rfl, (blk_cell BK276.out 3).trans rfl, (blk_cell BK276.out 4).trans rfl, hx280_0⟩ (fun hHeld => ?_); refine with_tabW spec_l3All.tab15 spec_l3All.bits15 (fun HT_ HW_ => ?_)
        generalize w38.drew = w39 at HO_5 BK269 BK276 HB HQ40 hf32_0 hx280_0 hx32_0 hHeld ⊢
        refine pu_ 0 65 #[true, false, false, false, false, false, false, false, false, false, false, false, false] HT_.out ?_
        refine pu_ 1 66 #[true, true, false, false, false, false, false, false, false, false, false, false, false] HT_.out ?_
        refine pu_ 3 68 #[true, true, false, true, false, false, false, false, false, false, false, false, false] HT_.out ?_
        refine pu_ 4 69 #[true, true, false, true, true, false, false, false, false, false, false, false, false] HT_.out ?_
        refine pu_ 8 73 #[true, true, false, true, true, false, false, false, true, false, false, false, false] HT_.out ?_
        refine tk_ 2 67 #[true, true, true, true, true, false, false, false, true, false, false, false, false] HT_.out HW_.out hHeld ?_
        refine tk_ 5 70 #[true, true, true, true, true, true, false, false, true, false, false, false, false] HT_.out HW_.out hHeld ?_
        refine pu_ 6 71 #[true, true, true, true, true, true, true, false, true, false, false, false, false] HT_.out ?_
        refine tk_ 7 72 #[true, true, true, true, true, true, true, true, true, false, false, false, false] HT_.out HW_.out hHeld ?_
        refine tk_ 9 74 #[true, true, true, true, true, true, true, true, true, true, false, false, false] HT_.out HW_.out hHeld ?_
        refine pu_ 10 75 #[true, true, true, true, true, true, true, true, true, true, true, false, false] HT_.out ?_
        refine pu_ 11 76 #[true, true, true, true, true, true, true, true, true, true, true, true, false] HT_.out ?_
        refine last_ (i := 12) (N := none) #[true, true, true, true, true, true, true, true, true, true, true, true, true] rfl rfl (one_of HT_.out (by kernel_rfl)) (by decide) (fun K hK => ?_)
        refine skip_ (w1 := ?_) (by rfl) rfl ?_ ?_
        rotate_left
        ·go_simp
         rfl
        refine hK.out _ _ ?_
        clear hK K
        refine done_ (done_of HT_.out (by kernel_rfl)) ?_
        try go_wp2
        (try simp only [← hl5_3])
        go_roundg k3
        case measure => have := HK1.out; have := HK2.out; have := HK3.out; omega
        case rel => exact ⟨(y281), (wrap64 (x8_3 + 1)), ns_, H', ⟨by have := HK1.out; have := HK2.out; have := HK3.out; omega⟩, ⟨by (try simp only [hl5_2]); (try simp only [hl5_3]); (with_reducible repeat (first | apply Kd.R_alloc | apply Kd.R_drewN | apply Kd.R_drew)); exact HQ40.out⟩, ⟨by (try simp only [hl5_2]); (try simp only [hl5_3]); (with_reducible repeat (first | refine blk_drewN ?_ _ | refine blk_drew ?_ | refine blk_alloc ?_ _)); refine blk_far ?_ (by have h_ := Kd.R_ne HO_5.out BK269.out (by decide); intro e_; exact h_ (by rw [e_]; rfl)) _; (with_reducible repeat (first | refine blk_drewN ?_ _ | refine blk_drew ?_ | refine blk_alloc ?_ _)); exact BK269.out⟩, ⟨ne_ HB.out⟩⟩
end Go.Proofs.Ytbmoonciggfbpaa.Print
