-- Made by this session's own program (wip/patch_print.py, over the kit's print). Lean checks it.
import Derived.Test.YtfpfaaibgaejjaaPrint0
namespace Go.Proofs.Ytfpfaaibgaejjaa.Print
open Go.RowKit Go.Proofs.YtfpfaaibgaejjaaW.PrintWords Go.Proofs.YtfpfaaibgaejjaaW.PrintLast Go.Proofs.YtfpfaaibgaejjaaW.PrintMore Go.Proofs.YtfpfaaibgaejjaaX
attribute [local go_sem] max2_int min2_int max_two min_two max_three min_three max_four min_four   -- for this text's walks alone
set_option linter.unusedVariables false
set_option linter.unusedSimpArgs false

/-! ### spec_l5Tidy: function 34 -/
mutual
def spec_l5Tidy.l0 : Nat → List (S36) → List (S36) → Int → Option ((List (S36)))
  | 0, _, _, _ => none
  | k + 1, x0, x3, x4 => if x4 ≤ 199 then (spec_l5Tidy.l1 k x0 x3 x4 99999 0) else (some x3)
def spec_l5Tidy.l1 : Nat → List (S36) → List (S36) → Int → Int → Int → Option ((List (S36)))
  | 0, _, _, _, _, _ => none
  | k + 1, x0, x3, x4, x5, x6 => if x6 < (x0.length : Int) then (if 0 ≤ x6 then (if ((rd_T36 x0 x6).f0) ≥ x4 then (if ((rd_T36 x0 x6).f1) < x5 then (spec_l5Tidy.l1 k x0 x3 x4 ((rd_T36 x0 x6).f1) (wrap64 (x6 + 1))) else (spec_l5Tidy.l1 k x0 x3 x4 x5 (wrap64 (x6 + 1)))) else (spec_l5Tidy.l1 k x0 x3 x4 x5 (wrap64 (x6 + 1)))) else (none)) else (if x5 = 99999 then (some x3) else (if (x3.length : Int) > 0 then (if 0 ≤ (wrap64 ((x3.length : Int) - 1)) then (if (wrap64 ((x3.length : Int) - 1)) < (x3.length : Int) then (if ((rd_T36 x3 (wrap64 ((x3.length : Int) - 1))).f1) = x5 then (spec_l5Tidy.l0 k x0 (x3.set ((wrap64 ((x3.length : Int) - 1)) : Int).toNat (⟨x4, (rd_T36 x3 (wrap64 ((x3.length : Int) - 1))).f1⟩ : S36)) (wrap64 (x4 + 1))) else (if x3.length < 8796093022208 then (spec_l5Tidy.l0 k x0 (x3 ++ [(⟨x4, x5⟩ : S36)]) (wrap64 (x4 + 1))) else (none))) else (none)) else (none)) else (if x3.length < 8796093022208 then (spec_l5Tidy.l0 k x0 (x3 ++ [(⟨x4, x5⟩ : S36)]) (wrap64 (x4 + 1))) else (none))))
end
def spec_l5Tidy.f (k : Nat) (l0 : List (S36)) : Option ((List (S36))) := spec_l5Tidy.l0 k l0 (([] : List (S36))) 0
theorem spec_l5Tidy.mono_l : ∀ k, (∀ y0 y1 y2, LeO (spec_l5Tidy.l0 k y0 y1 y2) (spec_l5Tidy.l0 (k + 1) y0 y1 y2)) ∧ (∀ y0 y1 y2 y3 y4, LeO (spec_l5Tidy.l1 k y0 y1 y2 y3 y4) (spec_l5Tidy.l1 (k + 1) y0 y1 y2 y3 y4))
  | 0 => ⟨fun _ _ _ r h => by simp [spec_l5Tidy.l0] at h, fun _ _ _ _ _ r h => by simp [spec_l5Tidy.l1] at h⟩
  | k + 1 => by
    obtain ⟨ih0, ih1⟩ := spec_l5Tidy.mono_l k
    refine ⟨?_, ?_⟩
    · intro y0 y1 y2
      unfold spec_l5Tidy.l0
      repeat' first | (with_reducible first | exact ih0 _ _ _ | exact ih1 _ _ _ _ _ | exact LeO.refl _ | exact LeO.none _ | refine LeO.ite ?_ ?_ | refine LeO.bind ?_ (fun _ => ?_)) | exact ih0 _ _ _ | exact ih1 _ _ _ _ _ | exact LeO.none _ | refine LeO.ite ?_ ?_ | refine LeO.bind ?_ (fun _ => ?_)
    · intro y0 y1 y2 y3 y4
      unfold spec_l5Tidy.l1
      repeat' first | (with_reducible first | exact ih0 _ _ _ | exact ih1 _ _ _ _ _ | exact LeO.refl _ | exact LeO.none _ | refine LeO.ite ?_ ?_ | refine LeO.bind ?_ (fun _ => ?_)) | exact ih0 _ _ _ | exact ih1 _ _ _ _ _ | exact LeO.none _ | refine LeO.ite ?_ ?_ | refine LeO.bind ?_ (fun _ => ?_)
theorem spec_l5Tidy.mono : ∀ a0 k, LeO (spec_l5Tidy.f k a0) (spec_l5Tidy.f (k + 1) a0) := by
  intro a0 k
  obtain ⟨ih0, ih1⟩ := spec_l5Tidy.mono_l k
  unfold spec_l5Tidy.f
  repeat' first | (with_reducible first | exact ih0 _ _ _ | exact ih1 _ _ _ _ _ | exact LeO.refl _ | exact LeO.none _ | refine LeO.ite ?_ ?_ | refine LeO.bind ?_ (fun _ => ?_)) | exact ih0 _ _ _ | exact ih1 _ _ _ _ _ | exact LeO.none _ | refine LeO.ite ?_ ?_ | refine LeO.bind ?_ (fun _ => ?_)
set_option maxHeartbeats 200000000 in
set_option maxRecDepth 100000 in
theorem spec_l5Tidy.calls (k : Nat) (A0 : Option Addr) (c0 : Nat) (l0 : List (S36)) (r : List (S36)) (w : World) (hr0 : Kd.C k36 w A0 l0.length l0) (hc0 : l0.length ≤ c0) (h : spec_l5Tidy.f k l0 = some r) :
    Calls Try.prog 34 #[.slice A0 l0.length c0] w fun e w' => ∃ v0_ : Value, e = .returned (v0_) ∧ Kd.R k36 36 w' w.heap.size (fun _ => True) v0_ r ∧ Below w.heap.size w w' := by
  have hu36 := Try.underlying36
  have HR0 := Aside0.mk hr0
  have HC0 := Aside0.mk hc0
  clear hr0 hc0
  have HB := Aside0.mk (Below.refl w.heap.size w)
  have H : (spec_l5Tidy.l0 k l0 (([] : List (S36))) 0) = some r := h
  clear h
  obtain ⟨y150, hy150⟩ : ∃ y_ : List (S36), y_ = (([] : List (S36))) := ⟨_, rfl⟩
  replace H : (spec_l5Tidy.l0 k l0 y150 0) = some r := by first | (rw [hy150]; with_reducible exact H) | (have H2_ := (Option.bind_some _ _).symm.trans H; rw [hy150]; with_reducible exact H2_) | (have H2_ := (Option.bind_some _ _).symm.trans H; with_reducible exact H2_) | with_reducible exact H | (rw [hy150]; exact H) | exact H
  have Ny150 := Aside0.mk hy150
  clear hy150
  have H' := Aside0.mk H
  clear H
  go_enter Try.func34, Try.ntmps34
  go_wp2_with (first | ((with_reducible refine gate_dst (N := 8) rfl ?_); refine Kd.R_lit k36 _ 36 ?hg (N := 8) ?hd (xs := ([] : List (S36))) (inner := []) (ok := fun _ => True) (okp := fun _ => True) ?hr ?hp (fun _ hk => hk) trivial (Below.refl _ _) (Nat.le_refl _) (by simp) ?_; (case hd => rfl); (case hg => rfl); (case hr => first | (go_simp; done) | (go_simp; rfl)); (case hp => exact (Reps.none _ _)); intro v151 w2 ho3 hb hg_ hnew_; clear hg_ hnew_; (first | rw [← Ny150.out] at ho3 | (simp only [Int.reduceToNat] at ho3; rw [← Ny150.out] at ho3)); have HO152 := Aside0.mk (Kd.R_lower ho3 (below_size (ne_ HB.out))); replace HB := kB_ HB hb; clear hb ho3))
  go_loopg [3, 4] k (fun kq v3 v4 w' => ∃ (x3_1 : List (S36)) (x4_1 : Int), v4 = .int .i64 x4_1 ∧ Aside0 (spec_l5Tidy.l0 kq l0 x3_1 x4_1 = some r) ∧ Aside0 (kq ≤ k) ∧ Aside0 (Kd.R k36 36 w' w.heap.size (fun _ => True) v3 x3_1) ∧ Aside0 (Below w.heap.size w w'))
  case atStart => exact ⟨(y150), (0), ns_, H', ⟨Nat.le_refl _⟩, ⟨nr_ HO152.out⟩, ⟨ne_ HB.out⟩⟩
  case round =>
   clear H'
   obtain ⟨x3_1, x4_1, rfl, HA, HK1, HO_3, HB⟩ := hrel
   cases gk with
   | zero => exact absurd HA.out (by simp [spec_l5Tidy.l0])
   | succ k1 =>
    have H := HA.out
    clear HA
    simp only [spec_l5Tidy.l0] at H
    by_cases c4 : x4_1 ≤ 199
    rotate_left
    ·rw [if_neg c4] at H
     have c4b0 : decide (x4_1 ≤ 199) = false := decide_eq_false c4
     clear c4
     obtain rfl := Option.some.inj H
     go_wp2
     go_ret
     exact ⟨_, nw_, nr_ HO_3.out, ne_ HB.out⟩

    rw [if_pos c4] at H
    have c4b0 : decide (x4_1 ≤ 199) = true := decide_eq_true c4
    clear c4
    have H' := Aside0.mk H
    clear H
    go_wp2
    go_loopg [5, 6] k1 (fun kq v5 v6 w' => ∃ (x5_2 : Int) (x6_2 : Int), v5 = .int .i64 x5_2 ∧ v6 = .int .i64 x6_2 ∧ Aside0 (spec_l5Tidy.l1 kq l0 x3_1 x4_1 x5_2 x6_2 = some r) ∧ Aside0 (kq ≤ k1) ∧ Aside0 (Kd.R k36 36 w' w.heap.size (fun _ => True) u3 x3_1) ∧ Aside0 (Below w.heap.size w w'))
    case atStart => exact ⟨(99999), (0), ns_, ns_, H', ⟨Nat.le_refl _⟩, ⟨nr_ HO_3.out⟩, ⟨ne_ HB.out⟩⟩
    case round =>
     clear H'
     try clear c4
     try clear c4b0
     obtain ⟨x5_2, x6_2, rfl, rfl, HA, HK2, HO_3, HB⟩ := hrel
     cases gk with
     | zero => exact absurd HA.out (by simp [spec_l5Tidy.l1])
     | succ k2 =>
      have H := HA.out
      clear HA
      simp only [spec_l5Tidy.l1] at H
      by_cases c5 : x6_2 < (l0.length : Int)
      ·rw [if_pos c5] at H
       have c5b0 : decide (x6_2 < (l0.length : Int)) = true := decide_eq_true c5
       clear c5
       by_cases c6 : 0 ≤ x6_2
       rotate_left
       ·rw [if_neg c6] at H
        exact absurd H (by simp)
       rw [if_pos c6] at H
       have c6b0 : decide (0 ≤ x6_2) = true := decide_eq_true c6
       clear c6
       by_cases c7 : ((rd_T36 l0 x6_2).f0) ≥ x4_1
       rotate_left
       ·rw [if_neg c7] at H
        have c7b0 : decide (x4_1 ≤ ((rd_T36 l0 x6_2).f0)) = false := decide_eq_false c7
        clear c7
        have H' := Aside0.mk H
        clear H
        have p153 : 0 ≤ (x6_2 : Int) := of_decide_eq_true nx_
        have q153 : x6_2 < (l0.length : Int) := of_decide_eq_true nx_
        obtain ⟨ad153, e153, hx153_0, hx153_1⟩ := at_T36 HR0.out x6_2 p153 q153
        cases e153
        replace hx153_0 := hb_ HB.out hx153_0
        replace hx153_1 := hb_ HB.out hx153_1
        replace p153 := eq_true p153
        replace q153 := eq_true q153
        go_wp2
        go_roundg k2
        case measure => have := HK1.out; have := HK2.out; omega
        case rel => exact ⟨(x5_2), (wrap64 (x6_2 + 1)), ns_, ns_, H', ⟨by have := HK1.out; have := HK2.out; omega⟩, ⟨nr_ HO_3.out⟩, ⟨ne_ HB.out⟩⟩
       rw [if_pos c7] at H
       have c7b0 : decide (x4_1 ≤ ((rd_T36 l0 x6_2).f0)) = true := decide_eq_true c7
       clear c7
       by_cases c8 : ((rd_T36 l0 x6_2).f1) < x5_2
       rotate_left
       ·rw [if_neg c8] at H
        have c8b0 : decide (((rd_T36 l0 x6_2).f1) < x5_2) = false := decide_eq_false c8
        clear c8
        have H' := Aside0.mk H
        clear H
        have p153 : 0 ≤ (x6_2 : Int) := of_decide_eq_true nx_
        have q153 : x6_2 < (l0.length : Int) := of_decide_eq_true nx_
        obtain ⟨ad153, e153, hx153_0, hx153_1⟩ := at_T36 HR0.out x6_2 p153 q153
        cases e153
        replace hx153_0 := hb_ HB.out hx153_0
        replace hx153_1 := hb_ HB.out hx153_1
        replace p153 := eq_true p153
        replace q153 := eq_true q153
        have p154 : 0 ≤ (x6_2 : Int) := of_decide_eq_true nx_
        have q154 : x6_2 < (l0.length : Int) := of_decide_eq_true nx_
        obtain ⟨ad154, e154, hx154_0, hx154_1⟩ := at_T36 HR0.out x6_2 p154 q154
        obtain rfl : ad153 = ad154 := (by injection e154)
        replace hx154_0 := hb_ HB.out hx154_0
        replace hx154_1 := hb_ HB.out hx154_1
        replace p154 := eq_true p154
        replace q154 := eq_true q154
        go_wp2
        go_roundg k2
        case measure => have := HK1.out; have := HK2.out; omega
        case rel => exact ⟨(x5_2), (wrap64 (x6_2 + 1)), ns_, ns_, H', ⟨by have := HK1.out; have := HK2.out; omega⟩, ⟨nr_ HO_3.out⟩, ⟨ne_ HB.out⟩⟩
       rw [if_pos c8] at H
       have c8b0 : decide (((rd_T36 l0 x6_2).f1) < x5_2) = true := decide_eq_true c8
       clear c8
       have H' := Aside0.mk H
       clear H
       have p153 : 0 ≤ (x6_2 : Int) := of_decide_eq_true nx_
       have q153 : x6_2 < (l0.length : Int) := of_decide_eq_true nx_
       obtain ⟨ad153, e153, hx153_0, hx153_1⟩ := at_T36 HR0.out x6_2 p153 q153
       cases e153
       replace hx153_0 := hb_ HB.out hx153_0
       replace hx153_1 := hb_ HB.out hx153_1
       replace p153 := eq_true p153
       replace q153 := eq_true q153
       have p154 : 0 ≤ (x6_2 : Int) := of_decide_eq_true nx_
       have q154 : x6_2 < (l0.length : Int) := of_decide_eq_true nx_
       obtain ⟨ad154, e154, hx154_0, hx154_1⟩ := at_T36 HR0.out x6_2 p154 q154
       obtain rfl : ad153 = ad154 := (by injection e154)
       replace hx154_0 := hb_ HB.out hx154_0
       replace hx154_1 := hb_ HB.out hx154_1
       replace p154 := eq_true p154
       replace q154 := eq_true q154
       have p155 : 0 ≤ (x6_2 : Int) := of_decide_eq_true nx_
       have q155 : x6_2 < (l0.length : Int) := of_decide_eq_true nx_
       obtain ⟨ad155, e155, hx155_0, hx155_1⟩ := at_T36 HR0.out x6_2 p155 q155
       obtain rfl : ad153 = ad155 := (by injection e155)
       replace hx155_0 := hb_ HB.out hx155_0
       replace hx155_1 := hb_ HB.out hx155_1
       replace p155 := eq_true p155
       replace q155 := eq_true q155
       go_wp2
       go_roundg k2
       case measure => have := HK1.out; have := HK2.out; omega
       case rel => exact ⟨((rd_T36 l0 x6_2).f1), (wrap64 (x6_2 + 1)), ns_, ns_, H', ⟨by have := HK1.out; have := HK2.out; omega⟩, ⟨nr_ HO_3.out⟩, ⟨ne_ HB.out⟩⟩
      rw [if_neg c5] at H
      have c5b0 : decide (x6_2 < (l0.length : Int)) = false := decide_eq_false c5
      clear c5
      by_cases c9 : x5_2 = 99999
      ·rw [if_pos c9] at H
       have c9b0 : (x5_2 == 99999) = true := beq_iff_eq.mpr c9
       have c9b1 : (x5_2 != 99999) = false := bne_eq_false_iff_eq.mpr c9
       clear c9
       obtain rfl := Option.some.inj H
       obtain ⟨Ao10, co10, eo10⟩ := Kd.R_slice HO_3.out
       subst eo10
       go_wp2
       go_ret
       exact ⟨_, nw_, nr_ HO_3.out, ne_ HB.out⟩
      rw [if_neg c9] at H
      have c9b0 : (x5_2 == 99999) = false := beq_eq_false_iff_ne.mpr c9
      have c9b1 : (x5_2 != 99999) = true := bne_iff_ne.mpr c9
      by_cases c11 : (x3_1.length : Int) > 0
      rotate_left
      ·rw [if_neg c11] at H
       have c11b0 : decide (0 < (x3_1.length : Int)) = false := decide_eq_false c11
       have c11b1 : decide (0 < x3_1.length) = false := decide_eq_false (by omega)
       clear c11
       by_cases c23 : x3_1.length < 8796093022208
       rotate_left
       ·rw [if_neg c23] at H
        exact absurd H (by simp)
       rw [if_pos c23] at H
       have LMc23 := Aside0.mk c23
       clear c23
       obtain ⟨y161, hy161⟩ : ∃ y_ : List (S36), y_ = (x3_1 ++ [(⟨x4_1, x5_2⟩ : S36)]) := ⟨_, rfl⟩
       replace H : (spec_l5Tidy.l0 k2 l0 y161 (wrap64 (x4_1 + 1))) = some r := by first | (rw [hy161]; with_reducible exact H) | (have H2_ := (Option.bind_some _ _).symm.trans H; rw [hy161]; with_reducible exact H2_) | (have H2_ := (Option.bind_some _ _).symm.trans H; with_reducible exact H2_) | with_reducible exact H | (rw [hy161]; exact H) | exact H
       have Ny161 := Aside0.mk hy161
       clear hy161
       have H' := Aside0.mk H
       clear H
       obtain ⟨Ao24, co24, eo24⟩ := Kd.R_slice HO_3.out
       subst eo24
       go_wp2_with (first | ((with_reducible refine gate_builtin (b := .append) (xs := #[.tmp 62, .tmp 66]) rfl ?_); at_builtin; refine Kd.R_append k36 (w0 := w) w.heap.size rfl (.tmp 62) (.tmp 66) 22 36 (.agg #[(.int .i64 0), (.int .i64 0)]) 16 rfl Try.underlying22 info36 rfl (by decide) (by omega) (.slice Ao24 x3_1.length co24) x3_1 (⟨x4_1, x5_2⟩ : S36) [.int .i64 x4_1, .int .i64 x5_2] (fun _ => True) (fun _ => False) rfl rfl ?aP (fun _ hk => hk.elim) ?aF ?aO ?aB ?aS ?aL ?_; (case aP => exact k36_mkM _ _ _ (⟨x4_1, x5_2⟩ : S36)); (case aB => exact (ne_ HB.out)); (case aF => exact (fun _ _ => trivial)); (case aO => exact (nr_ HO_3.out)); (case aS => exact (below_size (ne_ HB.out))); (case aL => have := LMc23.out; omega); intro v162 w25 ho hb hg hat; rw [← Ny161.out] at ho; have HO163 := Aside0.mk (ho); replace HB := Aside0.mk (hb); clear HO_3; clear ho hb hg hat))
       go_roundg k2
       case measure => have := HK1.out; have := HK2.out; omega
       case rel => exact ⟨(y161), (wrap64 (x4_1 + 1)), ns_, H', ⟨by have := HK1.out; have := HK2.out; omega⟩, ⟨nr_ HO163.out⟩, ⟨ne_ HB.out⟩⟩
      rw [if_pos c11] at H
      have c11b0 : decide (0 < (x3_1.length : Int)) = true := decide_eq_true c11
      have c11b1 : decide (0 < x3_1.length) = true := decide_eq_true (by omega)
      clear c11
      obtain ⟨ji12, hji12⟩ : ∃ j_ : Int, (wrap64 ((x3_1.length : Int) - 1)) = j_ := ⟨_, rfl⟩
      replace H : (if 0 ≤ (ji12) then (if (ji12) < (x3_1.length : Int) then (if ((rd_T36 x3_1 (ji12)).f1) = x5_2 then (spec_l5Tidy.l0 k2 l0 (x3_1.set ((ji12) : Int).toNat (⟨x4_1, (rd_T36 x3_1 (ji12)).f1⟩ : S36)) (wrap64 (x4_1 + 1))) else (if x3_1.length < 8796093022208 then (spec_l5Tidy.l0 k2 l0 (x3_1 ++ [(⟨x4_1, x5_2⟩ : S36)]) (wrap64 (x4_1 + 1))) else (none))) else (none)) else (none)) = some r := by first | (rw [hji12] at H; exact H) | (simp only [hji12] at H ⊢; exact H)
      have hji12w : (IntKind.i64.wrap ((x3_1.length : Int) - 1)) = ji12 := (i64_w _).trans hji12
      by_cases c13 : 0 ≤ (ji12)
      rotate_left
      ·rw [if_neg c13] at H
       exact absurd H (by simp)
      rw [if_pos c13] at H
      have c13b0 : decide (0 ≤ (ji12)) = true := decide_eq_true c13
      clear c13
      by_cases c14 : (ji12) < (x3_1.length : Int)
      rotate_left
      ·rw [if_neg c14] at H
       exact absurd H (by simp)
      rw [if_pos c14] at H
      have c14b0 : decide ((ji12) < (x3_1.length : Int)) = true := decide_eq_true c14
      clear c14
      by_cases c15 : ((rd_T36 x3_1 (ji12)).f1) = x5_2
      rotate_left
      ·rw [if_neg c15] at H
       have c15b0 : (((rd_T36 x3_1 (ji12)).f1) == x5_2) = false := beq_eq_false_iff_ne.mpr c15
       have c15b1 : (((rd_T36 x3_1 (ji12)).f1) != x5_2) = true := bne_iff_ne.mpr c15
       by_cases c20 : x3_1.length < 8796093022208
       rotate_left
       ·rw [if_neg c20] at H
        exact absurd H (by simp)
       rw [if_pos c20] at H
       have LMc20 := Aside0.mk c20
       clear c20
       obtain ⟨y158, hy158⟩ : ∃ y_ : List (S36), y_ = (x3_1 ++ [(⟨x4_1, x5_2⟩ : S36)]) := ⟨_, rfl⟩
       replace H : (spec_l5Tidy.l0 k2 l0 y158 (wrap64 (x4_1 + 1))) = some r := by first | (rw [hy158]; with_reducible exact H) | (have H2_ := (Option.bind_some _ _).symm.trans H; rw [hy158]; with_reducible exact H2_) | (have H2_ := (Option.bind_some _ _).symm.trans H; with_reducible exact H2_) | with_reducible exact H | (rw [hy158]; exact H) | exact H
       have Ny158 := Aside0.mk hy158
       clear hy158
       have H' := Aside0.mk H
       clear H
       obtain ⟨Ao21, co21, eo21⟩ := Kd.R_slice HO_3.out
       subst eo21
       have p156 : 0 ≤ ((ji12) : Int) := of_decide_eq_true nx_
       have q156 : (ji12) < (x3_1.length : Int) := of_decide_eq_true nx_
       obtain ⟨ad156, e156, hx156_0, hx156_1⟩ := at_T36 (Kd.R_reads' HO_3.out).2.2 (ji12) p156 q156
       cases e156
       replace p156 := eq_true p156
       replace q156 := eq_true q156
       go_wp2_with (first | ((with_reducible refine gate_builtin (b := .append) (xs := #[.tmp 62, .tmp 66]) rfl ?_); at_builtin; refine Kd.R_append k36 (w0 := w) w.heap.size rfl (.tmp 62) (.tmp 66) 22 36 (.agg #[(.int .i64 0), (.int .i64 0)]) 16 rfl Try.underlying22 info36 rfl (by decide) (by omega) (.slice (some ad156) x3_1.length co21) x3_1 (⟨x4_1, x5_2⟩ : S36) [.int .i64 x4_1, .int .i64 x5_2] (fun _ => True) (fun _ => False) rfl rfl ?aP (fun _ hk => hk.elim) ?aF ?aO ?aB ?aS ?aL ?_; (case aP => exact k36_mkM _ _ _ (⟨x4_1, x5_2⟩ : S36)); (case aB => exact (ne_ HB.out)); (case aF => exact (fun _ _ => trivial)); (case aO => exact (nr_ HO_3.out)); (case aS => exact (below_size (ne_ HB.out))); (case aL => have := LMc20.out; omega); intro v159 w22 ho hb hg hat; rw [← Ny158.out] at ho; have HO160 := Aside0.mk (ho); replace HB := Aside0.mk (hb); clear HO_3; clear ho hb hg hat))
       go_roundg k2
       case measure => have := HK1.out; have := HK2.out; omega
       case rel => exact ⟨(y158), (wrap64 (x4_1 + 1)), ns_, H', ⟨by have := HK1.out; have := HK2.out; omega⟩, ⟨nr_ HO160.out⟩, ⟨ne_ HB.out⟩⟩
      rw [if_pos c15] at H
      have c15b0 : (((rd_T36 x3_1 (ji12)).f1) == x5_2) = true := beq_iff_eq.mpr c15
      have c15b1 : (((rd_T36 x3_1 (ji12)).f1) != x5_2) = false := bne_eq_false_iff_eq.mpr c15
      clear c15
      obtain ⟨y157, hy157⟩ : ∃ y_ : List (S36), y_ = (x3_1.set ((ji12) : Int).toNat (⟨x4_1, (rd_T36 x3_1 (ji12)).f1⟩ : S36)) := ⟨_, rfl⟩
      replace H : (spec_l5Tidy.l0 k2 l0 y157 (wrap64 (x4_1 + 1))) = some r := by first | (rw [hy157]; with_reducible exact H) | (have H2_ := (Option.bind_some _ _).symm.trans H; rw [hy157]; with_reducible exact H2_) | (have H2_ := (Option.bind_some _ _).symm.trans H; with_reducible exact H2_) | with_reducible exact H | (rw [hy157]; exact H) | exact H
      have Ny157 := Aside0.mk hy157
      clear hy157
      have H' := Aside0.mk H
      clear H
      obtain ⟨Ao17, co17, eo17⟩ := Kd.R_slice HO_3.out
      subst eo17
      have p156 : 0 ≤ ((ji12) : Int) := of_decide_eq_true nx_
      have q156 : (ji12) < (x3_1.length : Int) := of_decide_eq_true nx_
      obtain ⟨ad156, e156, hx156_0, hx156_1⟩ := at_T36 (Kd.R_reads' HO_3.out).2.2 (ji12) p156 q156
      cases e156
      replace p156 := eq_true p156
      replace q156 := eq_true q156
      have p16 : 0 ≤ ((ji12) : Int) := of_decide_eq_true nx_
      have q16 : ((ji12) : Int) < ((x3_1.length : Int) : Int) := of_decide_eq_true nx_
      obtain ⟨go16, co16, eo16, gb16, gl16, cl16, HG16⟩ := Kd.R_form HO_3.out (by omega)
      (first | cases eo16 | (injection eo16 with ea_ en_ ec_; (first | subst ea_ | (injection ea_ with ea_; subst ea_)); subst ec_; clear en_))
      have GB16 := Aside0.mk gb16
      have GG16 := Aside0.mk HG16
      clear gb16 gl16 HG16
      (first | simp only [add_plain] at hx156_0 | skip)
      (first | simp only [add_plain] at hx156_1 | skip)
      obtain ⟨ce16, hcl16, hM16, hcc16, hfr16⟩ := Kd.R_elem HO_3.out z36 ((ji12) : Int) p16 q16
      obtain rfl := k36_openM hM16
      have hx16_0 : wr.cell? ⟨go16, ((ji12) : Int).toNat * 2, none⟩ = some (.int .i64 ((rd_T36 x3_1 (ji12)).f0)) := hcc16 0 _ rfl
      have hx16_1 : wr.cell? ⟨go16, ((ji12) : Int).toNat * 2 + 1, none⟩ = some (.int .i64 ((rd_T36 x3_1 (ji12)).f1)) := hcc16 1 _ rfl
      have hf16_0 : wr.frozen? ⟨go16, ((ji12) : Int).toNat * 2, none⟩ = false := hfr16 0
      have hf16_1 : wr.frozen? ⟨go16, ((ji12) : Int).toNat * 2 + 1, none⟩ = false := hfr16 1
      clear hcl16 hcc16 hfr16 hM16
      replace p16 := eq_true p16
      replace q16 := eq_true q16
      have HX18 := Aside0.mk (show Kd.R k36 36 wr w.heap.size (fun _ => True) (.slice (some ⟨go16, 0, none⟩) x3_1.length co17) x3_1 from (nr_ HO_3.out))
      obtain ⟨ce18, hcl18, hM18, hcc18, hfr18⟩ := Kd.R_elem HX18.out z36 ((ji12) : Int) (of_decide_eq_true nx_) (by have h_ : ((ji12) : Int) < ((x3_1.length : Int) : Int) := of_decide_eq_true nx_; first | exact h_ | (have e_ := (Kd.R_reads' HO_3.out).1; omega) | simpa using h_)
      obtain rfl := k36_openM hM18
      have HP18 := Kd.R_seg HX18.out ((ji12) : Int) (of_decide_eq_true nx_) (by have h_ : ((ji12) : Int) < ((x3_1.length : Int) : Int) := of_decide_eq_true nx_; first | exact h_ | (have e_ := (Kd.R_reads' HO_3.out).1; omega) | simpa using h_) (seg := [.int .i64 x4_1]) (j := 0) hcl18 hcc18 (show 1 ≤ 2 from by decide) (x' := (⟨x4_1, (rd_T36 x3_1 (ji12)).f1⟩ : S36)) (k36_mkM _ _ _ (⟨x4_1, (rd_T36 x3_1 (ji12)).f1⟩ : S36) ) (fun _ hk => hk)
      have hx18_0 := hcc18 0 _ rfl
      (try simp only [show (k36).sz = 2 from rfl, Nat.mul_one, Nat.add_zero] at hx18_0)
      have hf18_0 := hfr18 0
      (try simp only [show (k36).sz = 2 from rfl, Nat.mul_one, Nat.add_zero] at hf18_0)
      clear hcl18 hcc18 hfr18 hM18
      go_wp2_with (first | ((with_reducible refine gate_store (t := 3) (p := 61) rfl ?_); refine store_event (t := 3) (p := 61) (v := ?vo_w19) (w1 := (wr.setCell ⟨go16, ((ji12) : Int).toNat * 2, none⟩ (.int .i64 x4_1))) ?hg ?ho ?hn ?hr ?_; (case ho => rfl); (case hg => rfl); (case hn => rfl); (case hr => first | (go_simp; done) | (go_simp; rfl)); intro w19 hw; have hg : wr.grownBy w19 (some go16) := (by rw [hw]; exact HP18.2); have hp_ : Kd.R k36 36 w19 w.heap.size (fun _ => True) (.slice (some ⟨go16, 0, none⟩) x3_1.length co17) y157 := (by rw [hw, Ny157.out]; exact HP18.1); clear HP18; replace HO_3 := Aside0.mk (hp_); replace HB := Aside0.mk ((by rw [hw]; exact below_set (HB.out) GB16.out : Below w.heap.size w w19)); clear hg hw hp_))
      go_roundg k2
      case measure => have := HK1.out; have := HK2.out; omega
      case rel => exact ⟨(y157), (wrap64 (x4_1 + 1)), ns_, H', ⟨by have := HK1.out; have := HK2.out; omega⟩, ⟨nr_ HO_3.out⟩, ⟨ne_ HB.out⟩⟩
end Go.Proofs.Ytfpfaaibgaejjaa.Print
