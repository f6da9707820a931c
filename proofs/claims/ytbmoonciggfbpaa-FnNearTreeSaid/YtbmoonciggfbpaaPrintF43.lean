-- Made by this session's own program (wip/patch_print.py, over the kit's print). Lean checks it.
import Derived.Test.YtbmoonciggfbpaaPrint0
namespace Go.Proofs.Ytbmoonciggfbpaa.Print
open Go.RowKit Go.Proofs.YtbmoonciggfbpaaW.PrintWords Go.Proofs.YtbmoonciggfbpaaW.PrintLast Go.Proofs.YtbmoonciggfbpaaW.PrintMore Go.Proofs.YtbmoonciggfbpaaX
attribute [local go_sem] max2_int min2_int max_two min_two max_three min_three max_four min_four   -- for this text's walks alone
set_option linter.unusedVariables false
set_option linter.unusedSimpArgs false

/-! ### impl_costs: function 43 -/
def impl_costs.l0 : Nat → List Int → List (S72) → Int → Int → Option (List Int)
  | 0, _, _, _, _ => none
  | k + 1, x3, x9, x10, x11 => if x11 < x10 then (if 0 ≤ x11 then (if x11 < (x9.length : Int) then (if x3.length < 17592186044416 then (impl_costs.l0 k (x3 ++ [(rd_T72 x9 x11).f0]) x9 x10 (wrap64 (x11 + 1))) else (none)) else (none)) else (none)) else (some x3)
def impl_costs.f (k : Nat) (l0 : List (S72)) : Option (List Int) := if 0 ≤ (l0.length : Int) then (if ((l0.length : Int) : Int).toNat ≤ 35184372088832 then (impl_costs.l0 k (([] : List Int)) l0 (l0.length : Int) 0) else (none)) else (none)
theorem impl_costs.mono_l : ∀ k, (∀ y0 y1 y2 y3, LeO (impl_costs.l0 k y0 y1 y2 y3) (impl_costs.l0 (k + 1) y0 y1 y2 y3))
  | 0 => fun _ _ _ _ r h => by simp [impl_costs.l0] at h
  | k + 1 => by
    have ih0 := impl_costs.mono_l k
    · intro y0 y1 y2 y3
      unfold impl_costs.l0
      repeat' first | (with_reducible first | exact ih0 _ _ _ _ | exact LeO.refl _ | exact LeO.none _ | refine LeO.ite ?_ ?_ | refine LeO.bind ?_ (fun _ => ?_)) | exact ih0 _ _ _ _ | exact LeO.none _ | refine LeO.ite ?_ ?_ | refine LeO.bind ?_ (fun _ => ?_)
theorem impl_costs.mono : ∀ a0 k, LeO (impl_costs.f k a0) (impl_costs.f (k + 1) a0) := by
  intro a0 k
  have ih0 := impl_costs.mono_l k
  unfold impl_costs.f
  repeat' first | (with_reducible first | exact ih0 _ _ _ _ | exact LeO.refl _ | exact LeO.none _ | refine LeO.ite ?_ ?_ | refine LeO.bind ?_ (fun _ => ?_)) | exact ih0 _ _ _ _ | exact LeO.none _ | refine LeO.ite ?_ ?_ | refine LeO.bind ?_ (fun _ => ?_)
set_option maxHeartbeats 200000000 in
set_option maxRecDepth 100000 in
theorem impl_costs.calls (k : Nat) (A0 : Option Addr) (c0 : Nat) (l0 : List (S72)) (r : List Int) (w : World) (hr0 : Kd.C k72 w A0 l0.length l0) (hc0 : l0.length ≤ c0) (h : impl_costs.f k l0 = some r) :
    Calls Try.prog 43 #[.slice A0 l0.length c0] w fun e w' => ∃ v0_ : Value, e = .returned (v0_) ∧ Kd.R (Kd.int .i64) 3 w' w.heap.size (fun _ => True) v0_ r ∧ Below w.heap.size w w' := by
  have hu72 := Try.underlying72
  have HR0 := Aside0.mk hr0
  have HC0 := Aside0.mk hc0
  clear hr0 hc0
  have HB := Aside0.mk (Below.refl w.heap.size w)
  have H : (if 0 ≤ (l0.length : Int) then (if ((l0.length : Int) : Int).toNat ≤ 35184372088832 then (impl_costs.l0 k (([] : List Int)) l0 (l0.length : Int) 0) else (none)) else (none)) = some r := h
  clear h
  by_cases c2 : 0 ≤ (l0.length : Int)
  rotate_left
  ·rw [if_neg c2] at H
   exact absurd H (by simp)

  rw [if_pos c2] at H
  have c2b0 := eq_true c2
  have c2b1 : decide (0 ≤ (l0.length : Int)) = true := decide_eq_true c2
  clear c2
  by_cases c3 : ((l0.length : Int) : Int).toNat ≤ 35184372088832
  rotate_left
  ·rw [if_neg c3] at H
   exact absurd H (by simp)
  rw [if_pos c3] at H
  have c3b0 := eq_true c3
  have c3b1 : decide (((l0.length : Int) : Int).toNat ≤ 35184372088832) = true := decide_eq_true c3
  clear c3
  obtain ⟨y201, hy201⟩ : ∃ y_ : List Int, y_ = (([] : List Int)) := ⟨_, rfl⟩
  replace H : (impl_costs.l0 k y201 l0 (l0.length : Int) 0) = some r := by first | (rw [hy201]; with_reducible exact H) | (have H2_ := (Option.bind_some _ _).symm.trans H; rw [hy201]; with_reducible exact H2_) | (have H2_ := (Option.bind_some _ _).symm.trans H; with_reducible exact H2_) | with_reducible exact H | (rw [hy201]; exact H) | exact H
  have Ny201 := Aside0.mk hy201
  clear hy201
  have H' := Aside0.mk H
  clear H
  go_enter Try.func43, Try.ntmps43
  go_wp2_with (first | ((with_reducible refine gate_dst (N := 8) rfl ?_); refine Go.Proofs.YtbmoonciggfbpaaX.Kd.R_make0 (Kd.int .i64) _ 3 rfl (N := 8) rfl 28 _ _ rfl (l0.length : Int) rfl rfl Try.underlying28 (.int .i64 0) 8 info3 (by omega) (ok := fun _ => True) trivial (of_decide_eq_true nx_) (Nat.le_trans (Nat.mul_le_mul_right _ (of_decide_eq_true nx_ : ((l0.length : Int) : Int).toNat ≤ 35184372088832)) (by omega)) (Below.refl _ _) (Nat.le_refl _) ?_; intro v202 w4 ho5 hb hg_ hnew_; clear hg_ hnew_; (first | rw [← Ny201.out] at ho5 | (simp only [Int.reduceToNat] at ho5; rw [← Ny201.out] at ho5)); have HO203 := Aside0.mk (Kd.R_lower ho5 (below_size (ne_ HB.out))); replace HB := kB_ HB hb; clear hb ho5))
  go_loopg [3, 11] k (fun kq v3 v11 w' => ∃ (x3_1 : List Int) (x11_1 : Int), v11 = .int .i64 x11_1 ∧ Aside0 (impl_costs.l0 kq x3_1 l0 (l0.length : Int) x11_1 = some r) ∧ Aside0 (kq ≤ k) ∧ Aside0 (Kd.R (Kd.int .i64) 3 w' w.heap.size (fun _ => True) v3 x3_1) ∧ Aside0 (Below w.heap.size w w'))
  case atStart => exact ⟨(y201), (0), ns_, H', ⟨Nat.le_refl _⟩, ⟨nr_ HO203.out⟩, ⟨ne_ HB.out⟩⟩
  case round =>
   clear H'
   try clear c2
   try clear c2b0
   try clear c2b1
   try clear p2
   try clear c3
   try clear c3b0
   try clear c3b1
   try clear c4
   obtain ⟨x3_1, x11_1, rfl, HA, HK1, HO_3, HB⟩ := hrel
   cases gk with
   | zero => exact absurd HA.out (by simp [impl_costs.l0])
   | succ k1 =>
    have H := HA.out
    clear HA
    simp only [impl_costs.l0] at H
    by_cases c6 : x11_1 < (l0.length : Int)
    rotate_left
    ·rw [if_neg c6] at H
     have c6b0 : decide (x11_1 < (l0.length : Int)) = false := decide_eq_false c6
     clear c6
     obtain rfl := Option.some.inj H
     go_wp2
     go_ret
     exact ⟨_, nw_, nr_ HO_3.out, ne_ HB.out⟩
    rw [if_pos c6] at H
    have c6b0 : decide (x11_1 < (l0.length : Int)) = true := decide_eq_true c6
    clear c6
    by_cases c7 : 0 ≤ x11_1
    rotate_left
    ·rw [if_neg c7] at H
     exact absurd H (by simp)
    rw [if_pos c7] at H
    have c7b0 : decide (0 ≤ x11_1) = true := decide_eq_true c7
    clear c7
    by_cases c8 : x11_1 < (l0.length : Int)
    rotate_left
    ·rw [if_neg c8] at H
     exact absurd H (by simp)
    rw [if_pos c8] at H
    have c8b0 : decide (x11_1 < (l0.length : Int)) = true := decide_eq_true c8
    clear c8
    by_cases c9 : x3_1.length < 17592186044416
    rotate_left
    ·rw [if_neg c9] at H
     exact absurd H (by simp)
    rw [if_pos c9] at H
    have LMc9 := Aside0.mk c9
    clear c9
    obtain ⟨y206, hy206⟩ : ∃ y_ : List Int, y_ = (x3_1 ++ [(rd_T72 l0 x11_1).f0]) := ⟨_, rfl⟩
    replace H : (impl_costs.l0 k1 y206 l0 (l0.length : Int) (wrap64 (x11_1 + 1))) = some r := by first | (rw [hy206]; with_reducible exact H) | (have H2_ := (Option.bind_some _ _).symm.trans H; rw [hy206]; with_reducible exact H2_) | (have H2_ := (Option.bind_some _ _).symm.trans H; with_reducible exact H2_) | with_reducible exact H | (rw [hy206]; exact H) | exact H
    have Ny206 := Aside0.mk hy206
    clear hy206
    have H' := Aside0.mk H
    clear H
    have p204 : 0 ≤ (x11_1 : Int) := of_decide_eq_true nx_
    have q204 : x11_1 < (l0.length : Int) := of_decide_eq_true nx_
    obtain ⟨ad204, e204, hx204_0, hx204_1⟩ := at_T72 HR0.out x11_1 p204 q204
    cases e204
    replace hx204_0 := hb_ HB.out hx204_0
    replace hx204_1 := hb_ HB.out hx204_1
    replace p204 := eq_true p204
    replace q204 := eq_true q204
    go_wp2_with (first | ((with_reducible refine gate_dst (N := 5) rfl ?_); refine bx_ 5 #[.int .i64 0, .int .i64 0] 72 ?_; intro gb205 hg w10 hbox hb; have BK205 := Aside0.mk (hbox); have GW205 := Aside0.mk (zs_ hg (ne_ HB.out)); have GE205 := Aside0.mk (zs_ hg (ne_ HB.out)); replace HO_3 := kR_ HO_3 hb; replace HB := kB_ HB hb; clear hb hbox hg; obtain ⟨hcz11_0, hcz11_1, hfz11_0, hfz11_1⟩ := cz2_ BK205.out) | ((with_reducible refine gate_builtin (b := .append) (xs := #[.tmp 15, .tmp 18]) rfl ?_); at_builtin; refine Kd.R_append (Kd.int .i64) (w0 := w) w.heap.size rfl (.tmp 15) (.tmp 18) 28 3 (.int .i64 0) 8 rfl Try.underlying28 info3 rfl (by decide) (by omega) u3 x3_1 ((rd_T72 l0 x11_1).f0) [.int .i64 ((rd_T72 l0 x11_1).f0)] (fun _ => True) (fun _ => False) rfl (by first | (go_simp; done) | (go_simp; rfl)) ?aP (fun _ hk => hk.elim) ?aF ?aO ?aB ?aS ?aL ?_; (case aP => exact rfl); (case aB => exact (ne_ HB.out)); (case aF => exact (fun _ _ => trivial)); (case aO => exact (by (with_reducible repeat (first | apply Kd.R_alloc | apply Kd.R_drewN | apply Kd.R_drew)); exact Kd.R_mono (rf2_ (Kd.R_types HO_3.out BK205.out (by decide))) (fun _ hk => trivial))); (case aS => exact (below_size (ne_ HB.out))); (case aL => have := LMc9.out; omega); intro v207 w12 ho hb hg hat; rw [← Ny206.out] at ho; have HO208 := Aside0.mk (ho); replace BK205 := Aside0.mk (blk_grown (g := gb205) (o := .cells #[.int .i64 ((rd_T72 l0 x11_1).f0), .int .i64 ((rd_T72 l0 x11_1).f1)] 72 (0, 0)) (np_ BK205.out) hg (Kd.R_ne HO_3.out BK205.out (by decide))); replace HB := Aside0.mk (hb); clear HO_3; clear ho hb hg hat))
    go_roundg k1
    case measure => have := HK1.out; omega
    case rel => exact ⟨(y206), (wrap64 (x11_1 + 1)), ns_, H', ⟨by have := HK1.out; omega⟩, ⟨nr_ HO208.out⟩, ⟨ne_ HB.out⟩⟩
end Go.Proofs.Ytbmoonciggfbpaa.Print
