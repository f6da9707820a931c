-- Made by this session's own program (wip/patch_print.py, over the kit's print). Lean checks it.
import Derived.Test.YtbmoonciggfbpaaPrint0
import Derived.Test.YtbmoonciggfbpaaPrintF44
import Derived.Test.YtbmoonciggfbpaaPrintF57
namespace Go.Proofs.Ytbmoonciggfbpaa.Print
open Go.RowKit Go.Proofs.YtbmoonciggfbpaaW.PrintWords Go.Proofs.YtbmoonciggfbpaaW.PrintLast Go.Proofs.YtbmoonciggfbpaaW.PrintMore Go.Proofs.YtbmoonciggfbpaaX
attribute [local go_sem] max2_int min2_int max_two min_two max_three min_three max_four min_four   -- for this text's walks alone
set_option linter.unusedVariables false
set_option linter.unusedSimpArgs false

/-! ### impl_Net_best: function 55 -/
def impl_Net_best.l0 : Nat → Int → Int → List (S72) → List Int → Int → List (S33) → Option (List Int × Bool)
  | 0, _, _, _, _, _, _ => none
  | k + 1, x1, x2, x8, x9, x520000, x520001 => if x1 = x2 then (some (x9, true)) else ((impl_Net_firstArc.f x520000 x520001 x8 x1).bind fun t528 => (if x9.length < 17592186044416 then (if 0 ≤ t528 then (if t528 < (x520001.length : Int) then (impl_Net_best.l0 k ((rd_T33 x520001 t528).f1) x2 x8 (x9 ++ [t528]) x520000 x520001) else (none)) else (none)) else (none)))
def impl_Net_best.f (k : Nat) (a0_0 : Int) (l0_1 : List (S33)) (a1 : Int) (a2 : Int) : Option (List Int × Bool) := (impl_Net_toward.f k a0_0 l0_1 a2).bind fun t520 => (if 0 ≤ a1 then (if a1 < (t520.length : Int) then (if ((rd_T72 t520 a1).f0) = 99999 then (some (([] : List Int), false)) else (if 0 ≤ ((rd_T72 t520 a1).f1) then (if ((rd_T72 t520 a1).f1 : Int).toNat ≤ 35184372088832 then (impl_Net_best.l0 k a1 a2 t520 (([] : List Int)) a0_0 l0_1) else (none)) else (none))) else (none)) else (none))
theorem impl_Net_best.mono_l : ∀ k, (∀ y0 y1 y2 y3 y4 y5, LeO (impl_Net_best.l0 k y0 y1 y2 y3 y4 y5) (impl_Net_best.l0 (k + 1) y0 y1 y2 y3 y4 y5))
  | 0 => fun _ _ _ _ _ _ r h => by simp [impl_Net_best.l0] at h
  | k + 1 => by
    have ih0 := impl_Net_best.mono_l k
    · intro y0 y1 y2 y3 y4 y5
      unfold impl_Net_best.l0
      repeat' first | (with_reducible first | exact ih0 _ _ _ _ _ _ | exact impl_Net_toward.mono _ _ _ _ | exact LeO.refl _ | exact LeO.none _ | refine LeO.ite ?_ ?_ | refine LeO.bind ?_ (fun _ => ?_)) | exact ih0 _ _ _ _ _ _ | exact impl_Net_toward.mono _ _ _ _ | exact LeO.none _ | refine LeO.ite ?_ ?_ | refine LeO.bind ?_ (fun _ => ?_)
theorem impl_Net_best.mono : ∀ a0 a1 a2 a3 k, LeO (impl_Net_best.f k a0 a1 a2 a3) (impl_Net_best.f (k + 1) a0 a1 a2 a3) := by
  intro a0 a1 a2 a3 k
  have ih0 := impl_Net_best.mono_l k
  unfold impl_Net_best.f
  repeat' first | (with_reducible first | exact ih0 _ _ _ _ _ _ | exact impl_Net_toward.mono _ _ _ _ | exact LeO.refl _ | exact LeO.none _ | refine LeO.ite ?_ ?_ | refine LeO.bind ?_ (fun _ => ?_)) | exact ih0 _ _ _ _ _ _ | exact impl_Net_toward.mono _ _ _ _ | exact LeO.none _ | refine LeO.ite ?_ ?_ | refine LeO.bind ?_ (fun _ => ?_)
set_option maxHeartbeats 200000000 in
set_option maxRecDepth 100000 in
theorem impl_Net_best.calls (k : Nat) (a0_0 : Int) (A0_1 : Option Addr) (c0_1 : Nat) (l0_1 : List (S33)) (a1 : Int) (a2 : Int) (r1 : List Int) (r2 : Bool) (w : World) (hr0_1 : Kd.C k33 w A0_1 l0_1.length l0_1) (hc0_1 : l0_1.length ≤ c0_1) (h : impl_Net_best.f k a0_0 l0_1 a1 a2 = some (r1, r2)) :
    Calls Try.prog 55 #[.agg #[.int .i64 a0_0, .slice A0_1 l0_1.length c0_1], .int .i64 a1, .int .i64 a2] w fun e w' => ∃ v0_ : Value, e = .returned (.tuple #[v0_, .bool r2]) ∧ Kd.R (Kd.int .i64) 3 w' w.heap.size (fun _ => True) v0_ r1 ∧ Below w.heap.size w w' := by
  have hu25 := Try.underlying25
  have HR0_1 := Aside0.mk hr0_1
  have HC0_1 := Aside0.mk hc0_1
  clear hr0_1 hc0_1
  have HB := Aside0.mk (Below.refl w.heap.size w)
  have H : ((impl_Net_toward.f k a0_0 l0_1 a2).bind fun t520 => (if 0 ≤ a1 then (if a1 < (t520.length : Int) then (if ((rd_T72 t520 a1).f0) = 99999 then (some (([] : List Int), false)) else (if 0 ≤ ((rd_T72 t520 a1).f1) then (if ((rd_T72 t520 a1).f1 : Int).toNat ≤ 35184372088832 then (impl_Net_best.l0 k a1 a2 t520 (([] : List Int)) a0_0 l0_1) else (none)) else (none))) else (none)) else (none))) = some (r1, r2) := h
  clear h
  replace H := Option.bind_eq_some_iff.mp H
  obtain ⟨t520, A40, H⟩ := H
  replace H : (if 0 ≤ a1 then (if a1 < (t520.length : Int) then (if ((rd_T72 t520 a1).f0) = 99999 then (some (([] : List Int), false)) else (if 0 ≤ ((rd_T72 t520 a1).f1) then (if ((rd_T72 t520 a1).f1 : Int).toNat ≤ 35184372088832 then (impl_Net_best.l0 k a1 a2 t520 (([] : List Int)) a0_0 l0_1) else (none)) else (none))) else (none)) else (none)) = some (r1, r2) := H
  have A4 := Aside0.mk A40
  clear A40
  by_cases c5 : 0 ≤ a1
  rotate_left
  ·rw [if_neg c5] at H
   exact absurd H (by simp)

  rw [if_pos c5] at H
  have c5b0 : decide (0 ≤ a1) = true := decide_eq_true c5
  clear c5
  by_cases c6 : a1 < (t520.length : Int)
  rotate_left
  ·rw [if_neg c6] at H
   exact absurd H (by simp)
  rw [if_pos c6] at H
  have c6b0 : decide (a1 < (t520.length : Int)) = true := decide_eq_true c6
  clear c6
  by_cases c7 : ((rd_T72 t520 a1).f0) = 99999
  ·rw [if_pos c7] at H
   have c7b0 : (((rd_T72 t520 a1).f0) == 99999) = true := beq_iff_eq.mpr c7
   have c7b1 : (((rd_T72 t520 a1).f0) != 99999) = false := bne_eq_false_iff_eq.mpr c7
   clear c7
   simp only [Option.some.injEq, Prod.mk.injEq] at H
   obtain ⟨rfl, rfl⟩ := H
   go_enter Try.func55, Try.ntmps55
   go_wp2_with (first | ((with_reducible refine gate_dst (N := 3) rfl ?_); refine bx_ 3 #[.int .i64 a0_0, .slice A0_1 l0_1.length c0_1] 25 ?_; intro gb519 hg w8 hbox hb; have BK519 := Aside0.mk (hbox); have GW519 := Aside0.mk (zs_ hg (ne_ HB.out)); have GE519 := Aside0.mk (zs_ hg (ne_ HB.out)); replace HB := kB_ HB hb; clear hb hbox hg; obtain ⟨hcz9_0, hcz9_1, hfz9_0, hfz9_1⟩ := cz2_ BK519.out) | ((with_reducible refine gate_callee (f := 44) rfl ?_); refine gl_ (some 13) Try.func44 #[.agg #[.int .i64 a0_0, .slice A0_1 l0_1.length c0_1], .int .i64 a2] ?_; (with_reducible refine (impl_Net_toward.calls k a0_0 _ _ l0_1 a2 t520 _ ?side1 ?side2 A4.out).mono ?_); (case side1 => exact nc_ (Kd.C_below HR0_1.out HB.out)); (case side2 => exact HC0_1.out); rintro e w10 ⟨v521, rfl, ho0, hb⟩; refine ⟨_, rfl, ?_⟩; have HO522 := Aside0.mk (Kd.R_lower ho0 (below_size (ne_ HB.out))); replace BK519 := kb_ BK519 hb; replace HB := kB_ HB hb; (try clear hb); (try clear hb2); (try clear hk); (try clear hi); (try clear ho0); obtain ⟨Ao11, co11, eo11⟩ := Kd.R_slice HO522.out; subst eo11; have p523 : 0 ≤ (a1 : Int) := of_decide_eq_true nx_; have q523 : a1 < (t520.length : Int) := of_decide_eq_true nx_; obtain ⟨ad523, e523, hx523_0, hx523_1⟩ := at_T72 (Kd.R_reads' HO522.out).2.2 a1 p523 q523; cases e523; replace p523 := eq_true p523; replace q523 := eq_true q523))
   go_ret2
   exact ⟨_, nw_, by first | exact Kd.R_nil _ _ _ _ _ | exact Kd.N_nil _ _ _ _ _ | exact Kd.V_nil _ _ _ _ _ | exact Kd.Q_nil _ _ _ _ _ | exact Kd.S_nil _ _ _ _ _, ne_ HB.out⟩
  rw [if_neg c7] at H
  have c7b0 : (((rd_T72 t520 a1).f0) == 99999) = false := beq_eq_false_iff_ne.mpr c7
  have c7b1 : (((rd_T72 t520 a1).f0) != 99999) = true := bne_iff_ne.mpr c7
  by_cases c12 : 0 ≤ ((rd_T72 t520 a1).f1)
  rotate_left
  ·rw [if_neg c12] at H
   exact absurd H (by simp)
  rw [if_pos c12] at H
  have c12b0 := eq_true c12
  have c12b1 : decide (0 ≤ ((rd_T72 t520 a1).f1)) = true := decide_eq_true c12
  clear c12
  by_cases c13 : ((rd_T72 t520 a1).f1 : Int).toNat ≤ 35184372088832
  rotate_left
  ·rw [if_neg c13] at H
   exact absurd H (by simp)
  rw [if_pos c13] at H
  have c13b0 := eq_true c13
  have c13b1 : decide (((rd_T72 t520 a1).f1 : Int).toNat ≤ 35184372088832) = true := decide_eq_true c13
  clear c13
  obtain ⟨y525, hy525⟩ : ∃ y_ : List Int, y_ = (([] : List Int)) := ⟨_, rfl⟩
  replace H : (impl_Net_best.l0 k a1 a2 t520 y525 a0_0 l0_1) = some (r1, r2) := by first | (rw [hy525]; with_reducible exact H) | (have H2_ := (Option.bind_some _ _).symm.trans H; rw [hy525]; with_reducible exact H2_) | (have H2_ := (Option.bind_some _ _).symm.trans H; with_reducible exact H2_) | with_reducible exact H | (rw [hy525]; exact H) | exact H
  have Ny525 := Aside0.mk hy525
  clear hy525
  have H' := Aside0.mk H
  clear H
  go_enter Try.func55, Try.ntmps55
  go_wp2_with (first | ((with_reducible refine gate_dst (N := 3) rfl ?_); refine bx_ 3 #[.int .i64 a0_0, .slice A0_1 l0_1.length c0_1] 25 ?_; intro gb519 hg w14 hbox hb; have BK519 := Aside0.mk (hbox); have GW519 := Aside0.mk (zs_ hg (ne_ HB.out)); have GE519 := Aside0.mk (zs_ hg (ne_ HB.out)); replace HB := kB_ HB hb; clear hb hbox hg; obtain ⟨hcz15_0, hcz15_1, hfz15_0, hfz15_1⟩ := cz2_ BK519.out) | ((with_reducible refine gate_callee (f := 44) rfl ?_); refine gl_ (some 13) Try.func44 #[.agg #[.int .i64 a0_0, .slice A0_1 l0_1.length c0_1], .int .i64 a2] ?_; (with_reducible refine (impl_Net_toward.calls k a0_0 _ _ l0_1 a2 t520 _ ?side1 ?side2 A4.out).mono ?_); (case side1 => exact nc_ (Kd.C_below HR0_1.out HB.out)); (case side2 => exact HC0_1.out); rintro e w16 ⟨v521, rfl, ho0, hb⟩; refine ⟨_, rfl, ?_⟩; have HO522 := Aside0.mk (Kd.R_lower ho0 (below_size (ne_ HB.out))); replace BK519 := kb_ BK519 hb; replace HB := kB_ HB hb; (try clear hb); (try clear hb2); (try clear hk); (try clear hi); (try clear ho0); obtain ⟨Ao17, co17, eo17⟩ := Kd.R_slice HO522.out; subst eo17; have p523 : 0 ≤ (a1 : Int) := of_decide_eq_true nx_; have q523 : a1 < (t520.length : Int) := of_decide_eq_true nx_; obtain ⟨ad523, e523, hx523_0, hx523_1⟩ := at_T72 (Kd.R_reads' HO522.out).2.2 a1 p523 q523; cases e523; replace p523 := eq_true p523; replace q523 := eq_true q523; have p524 : 0 ≤ (a1 : Int) := of_decide_eq_true nx_; have q524 : a1 < (t520.length : Int) := of_decide_eq_true nx_; obtain ⟨ad524, e524, hx524_0, hx524_1⟩ := at_T72 (Kd.R_reads' HO522.out).2.2 a1 p524 q524; obtain rfl : ad523 = ad524 := (by injection e524); replace p524 := eq_true p524; replace q524 := eq_true q524) | ((with_reducible refine gate_dst (N := 25) rfl ?_); refine Go.Proofs.YtbmoonciggfbpaaX.Kd.R_make0 (Kd.int .i64) _ 3 rfl (N := 25) rfl 28 _ _ rfl ((rd_T72 t520 a1).f1) rfl rfl Try.underlying28 (.int .i64 0) 8 info3 (by omega) (ok := fun _ => True) trivial (of_decide_eq_true nx_) (Nat.le_trans (Nat.mul_le_mul_right _ (of_decide_eq_true nx_ : ((rd_T72 t520 a1).f1 : Int).toNat ≤ 35184372088832)) (by omega)) (Below.refl _ _) (Nat.le_refl _) ?_; intro v526 w18 ho19 hb hg_ hnew_; clear hg_ hnew_; (first | rw [← Ny525.out] at ho19 | (simp only [Int.reduceToNat] at ho19; rw [← Ny525.out] at ho19)); have HO527 := Aside0.mk (Kd.R_lower ho19 (below_size (ne_ HB.out))); replace HO522 := kR_ HO522 hb; replace BK519 := kb_ BK519 hb; replace HB := kB_ HB hb; clear hb ho19))
  go_loopg [1, 9] k (fun kq v1 v9 w' => ∃ (x1_1 : Int) (x9_1 : List Int), v1 = .int .i64 x1_1 ∧ Aside0 (impl_Net_best.l0 kq x1_1 a2 t520 x9_1 a0_0 l0_1 = some (r1, r2)) ∧ Aside0 (kq ≤ k) ∧ Aside0 (Kd.R k72 72 w' w.heap.size (fun _ => True) (.slice (some ad523) t520.length co17) t520) ∧ Aside0 (Kd.R (Kd.int .i64) 3 w' w.heap.size (fun _ => True) v9 x9_1) ∧ Aside0 (w'.heap[gb519]? = some (.cells #[.int .i64 a0_0, (.slice A0_1 l0_1.length c0_1)] 25 (0, 0))) ∧ Aside0 (Below w.heap.size w w'))
  case atStart => exact ⟨(a1), (y525), ns_, H', ⟨Nat.le_refl _⟩, ⟨nr_ HO522.out⟩, ⟨nr_ HO527.out⟩, ⟨nb_ BK519.out⟩, ⟨ne_ HB.out⟩⟩
  case round =>
   clear H'
   try clear c1
   try clear p2
   try clear c4
   try clear c5
   try clear c5b0
   try clear p5
   try clear q5
   try clear hx5
   try clear c6
   try clear c6b0
   try clear c7
   try clear c7b0
   try clear c7b1
   try clear c12
   try clear c12b0
   try clear c12b1
   try clear c13
   try clear c13b0
   try clear c13b1
   try clear hcz15_0
   try clear hcz15_1
   try clear hcz9_0
   try clear hcz9_1
   try clear hfz15_0
   try clear hfz15_1
   try clear hfz9_0
   try clear hfz9_1
   try clear hx523_0
   try clear hx523_1
   try clear hx524_0
   try clear hx524_1
   try clear p523
   try clear p524
   try clear q523
   try clear q524
   obtain ⟨x1_1, x9_1, rfl, HA, HK1, HO_8, HO_9, BK519, HB⟩ := hrel
   cases gk with
   | zero => exact absurd HA.out (by simp [impl_Net_best.l0])
   | succ k1 =>
    have H := HA.out
    clear HA
    simp only [impl_Net_best.l0] at H
    by_cases c20 : x1_1 = a2
    ·rw [if_pos c20] at H
     have c20b0 : (x1_1 == a2) = true := beq_iff_eq.mpr c20
     have c20b1 : (x1_1 != a2) = false := bne_eq_false_iff_eq.mpr c20
     clear c20
     simp only [Option.some.injEq, Prod.mk.injEq] at H
     obtain ⟨rfl, rfl⟩ := H
     go_wp2
     go_ret2
     exact ⟨_, nw_, nr_ HO_9.out, ne_ HB.out⟩
    rw [if_neg c20] at H
    have c20b0 : (x1_1 == a2) = false := beq_eq_false_iff_ne.mpr c20
    have c20b1 : (x1_1 != a2) = true := bne_iff_ne.mpr c20
    replace H := Option.bind_eq_some_iff.mp H
    obtain ⟨t528, A210, H⟩ := H
    replace H : (if x9_1.length < 17592186044416 then (if 0 ≤ t528 then (if t528 < (l0_1.length : Int) then (impl_Net_best.l0 k1 ((rd_T33 l0_1 t528).f1) a2 t520 (x9_1 ++ [t528]) a0_0 l0_1) else (none)) else (none)) else (none)) = some (r1, r2) := H
    have A21 := Aside0.mk A210
    clear A210
    by_cases c22 : x9_1.length < 17592186044416
    rotate_left
    ·rw [if_neg c22] at H
     exact absurd H (by simp)
    rw [if_pos c22] at H
    have LMc22 := Aside0.mk c22
    clear c22
    obtain ⟨y529, hy529⟩ : ∃ y_ : List Int, y_ = (x9_1 ++ [t528]) := ⟨_, rfl⟩
    replace H : (if 0 ≤ t528 then (if t528 < (l0_1.length : Int) then (impl_Net_best.l0 k1 ((rd_T33 l0_1 t528).f1) a2 t520 y529 a0_0 l0_1) else (none)) else (none)) = some (r1, r2) := by first | (rw [hy529]; with_reducible exact H) | (have H2_ := (Option.bind_some _ _).symm.trans H; rw [hy529]; with_reducible exact H2_) | (have H2_ := (Option.bind_some _ _).symm.trans H; with_reducible exact H2_) | with_reducible exact H | (rw [hy529]; exact H) | exact H
    have Ny529 := Aside0.mk hy529
    clear hy529
    by_cases c23 : 0 ≤ t528
    rotate_left
    ·rw [if_neg c23] at H
     exact absurd H (by simp)
    rw [if_pos c23] at H
    have c23b0 : decide (0 ≤ t528) = true := decide_eq_true c23
    clear c23
    by_cases c24 : t528 < (l0_1.length : Int)
    rotate_left
    ·rw [if_neg c24] at H
     exact absurd H (by simp)
    rw [if_pos c24] at H
    have c24b0 : decide (t528 < (l0_1.length : Int)) = true := decide_eq_true c24
    clear c24
    have H' := Aside0.mk H
    clear H
    obtain ⟨hcz25_0, hcz25_1, hfz25_0, hfz25_1⟩ := cz2_ BK519.out
    go_wp2_with (first | ((with_reducible refine gate_callee (f := 57) rfl ?_); refine gl_ (some 32) Try.func57 #[.agg #[.int .i64 a0_0, .slice A0_1 l0_1.length c0_1], .slice (some ad523) t520.length co17, .int .i64 x1_1] ?_; (with_reducible refine (impl_Net_firstArc.calls a0_0 _ _ l0_1 _ _ t520 x1_1 t528 _ ?side1 ?side2 ?side3 ?side4 A21.out).mono ?_); (case side1 => exact nc_ (Kd.C_below HR0_1.out HB.out)); (case side2 => exact HC0_1.out); (case side3 => exact nc_ (Kd.R_reads' HO_8.out).2.2); (case side4 => exact (Kd.R_reads' HO_8.out).2.1); rintro e w26 ⟨rfl, hb⟩; refine ⟨_, rfl, ?_⟩; replace HO_8 := kR_ HO_8 hb; replace HO_9 := kR_ HO_9 hb; replace BK519 := kb_ BK519 hb; replace HB := kB_ HB hb; (try clear hb); (try clear hb2); (try clear hk); (try clear hi)) | ((with_reducible refine gate_builtin (b := .append) (xs := #[.tmp 33, .tmp 35]) rfl ?_); at_builtin; refine Kd.R_append (Kd.int .i64) (w0 := w) w.heap.size rfl (.tmp 33) (.tmp 35) 28 3 (.int .i64 0) 8 rfl Try.underlying28 info3 rfl (by decide) (by omega) u9 x9_1 t528 [.int .i64 t528] (fun _ => True) (fun _ => False) rfl rfl ?aP (fun _ hk => hk.elim) ?aF ?aO ?aB ?aS ?aL ?_; (case aP => exact rfl); (case aB => exact (ne_ HB.out)); (case aF => exact (fun _ _ => trivial)); (case aO => exact (nr_ HO_9.out)); (case aS => exact (below_size (ne_ HB.out))); (case aL => have := LMc22.out; omega); intro v530 w27 ho hb hg hat; rw [← Ny529.out] at ho; have HO531 := Aside0.mk (ho); replace HO_8 := Aside0.mk (Kd.R_over' (nr_ HO_8.out) (Kd.R_typed (nr_ HO_9.out)) (by decide) hg); replace BK519 := Aside0.mk (blk_grown (g := gb519) (o := .cells #[.int .i64 a0_0, .slice A0_1 l0_1.length c0_1] 25 (0, 0)) (nb_ BK519.out) hg (Kd.R_ne HO_9.out BK519.out (by decide))); replace HB := Aside0.mk (hb); clear HO_9; clear ho hb hg hat; obtain ⟨hcz28_0, hcz28_1, hfz28_0, hfz28_1⟩ := cz2_ BK519.out; have p532 : 0 ≤ (t528 : Int) := of_decide_eq_true nx_; have q532 : t528 < (l0_1.length : Int) := of_decide_eq_true nx_; obtain ⟨ad532, e532, hx532_0, hx532_1, hx532_2, hx532_3, hx532_4⟩ := at_T33 HR0_1.out t528 p532 q532; cases e532; replace hx532_0 := hb_ HB.out hx532_0; replace hx532_1 := hb_ HB.out hx532_1; replace hx532_2 := hb_ HB.out hx532_2; replace hx532_3 := hb_ HB.out hx532_3; replace hx532_4 := hb_ HB.out hx532_4; replace p532 := eq_true p532; replace q532 := eq_true q532))
    go_roundg k1
    case measure => have := HK1.out; omega
    case rel => exact ⟨((rd_T33 l0_1 t528).f1), (y529), ns_, H', ⟨by have := HK1.out; omega⟩, ⟨nr_ HO_8.out⟩, ⟨nr_ HO531.out⟩, ⟨nb_ BK519.out⟩, ⟨ne_ HB.out⟩⟩
end Go.Proofs.Ytbmoonciggfbpaa.Print
