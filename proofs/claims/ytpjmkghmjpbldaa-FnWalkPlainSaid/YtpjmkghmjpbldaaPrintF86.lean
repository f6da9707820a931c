-- Made by this session's own program (wip/patch_print.py, over the kit's print). Lean checks it.
import Derived.Test.YtpjmkghmjpbldaaPrint0
namespace Go.Proofs.Ytpjmkghmjpbldaa.Print
open Go.RowKit Go.Proofs.YtpjmkghmjpbldaaW.PrintWords Go.Proofs.YtpjmkghmjpbldaaW.PrintLast Go.Proofs.YtpjmkghmjpbldaaW.PrintMore Go.Proofs.YtpjmkghmjpbldaaX
attribute [local go_sem] max2_int min2_int max_two min_two max_three min_three max_four min_four   -- for this text's walks alone
set_option linter.unusedVariables false
set_option linter.unusedSimpArgs false

/-! ### impl_Net_along: function 86 -/
def impl_Net_along.l0 : Nat → List Int → List Int → Int → Int → Int → List (S37) → Option (List Int)
  | 0, _, _, _, _, _, _ => none
  | k + 1, x5, x23, x24, x25, x780000, x780001 => if x25 < x24 then (if 0 ≤ x25 then (if x25 < (x23.length : Int) then (if 0 ≤ (rd x23 x25) then (if (rd x23 x25) < (x780001.length : Int) then (if x5.length < 17592186044416 then (impl_Net_along.l0 k (x5 ++ [(rd_T37 x780001 (rd x23 x25)).f1]) x23 x24 (wrap64 (x25 + 1)) x780000 x780001) else (none)) else (none)) else (none)) else (none)) else (none)) else (some x5)
def impl_Net_along.f (k : Nat) (a0_0 : Int) (l0_1 : List (S37)) (l1 : List Int) : Option (List Int) := if 0 ≤ (wrap64 ((l1.length : Int) + 1)) then (if (wrap64 ((l1.length : Int) + 1) : Int).toNat ≤ 35184372088832 then ((some (([] : List Int) : List Int)).bind fun y780 => (if 0 < (l1.length : Int) then (if 0 ≤ (rd l1 0) then (if (rd l1 0) < (l0_1.length : Int) then (if y780.length < 17592186044416 then (impl_Net_along.l0 k (y780 ++ [(rd_T37 l0_1 (rd l1 0)).f0]) l1 (l1.length : Int) 0 a0_0 l0_1) else (none)) else (none)) else (none)) else (none))) else (none)) else (none)
theorem impl_Net_along.mono_l : ∀ k, (∀ y0 y1 y2 y3 y4 y5, LeO (impl_Net_along.l0 k y0 y1 y2 y3 y4 y5) (impl_Net_along.l0 (k + 1) y0 y1 y2 y3 y4 y5))
  | 0 => fun _ _ _ _ _ _ r h => by simp [impl_Net_along.l0] at h
  | k + 1 => by
    have ih0 := impl_Net_along.mono_l k
    · intro y0 y1 y2 y3 y4 y5
      unfold impl_Net_along.l0
      repeat' first | (with_reducible first | exact ih0 _ _ _ _ _ _ | exact LeO.refl _ | exact LeO.none _ | refine LeO.ite ?_ ?_ | refine LeO.bind ?_ (fun _ => ?_)) | exact ih0 _ _ _ _ _ _ | exact LeO.none _ | refine LeO.ite ?_ ?_ | refine LeO.bind ?_ (fun _ => ?_)
theorem impl_Net_along.mono : ∀ a0 a1 a2 k, LeO (impl_Net_along.f k a0 a1 a2) (impl_Net_along.f (k + 1) a0 a1 a2) := by
  intro a0 a1 a2 k
  have ih0 := impl_Net_along.mono_l k
  unfold impl_Net_along.f
  repeat' first | (with_reducible first | exact ih0 _ _ _ _ _ _ | exact LeO.refl _ | exact LeO.none _ | refine LeO.ite ?_ ?_ | refine LeO.bind ?_ (fun _ => ?_)) | exact ih0 _ _ _ _ _ _ | exact LeO.none _ | refine LeO.ite ?_ ?_ | refine LeO.bind ?_ (fun _ => ?_)
def impl_Net_along.T2 : Bool × List (List Nat × List Nat) := (true, [([], []), ([], []), ([1], [1]), ([], []), ([3], [3]), ([4], [4]), ([2, 5], [2, 5]), ([6], [6]), ([7], [7]), ([8], [8]), ([0, 9], [0, 9]), ([10, 10, 0, 1, 2, 3, 4, 5, 6, 7, 8, 9, 10], [0, 10])])
def impl_Net_along.B2 : List Nat := [0, 0, 2, 0, 8, 24, 62, 126, 254, 510, 1023, 2047]
theorem impl_Net_along.tab2 : rtab .any (opsOf Try.f86 2) = impl_Net_along.T2 := by kernel_rfl
theorem impl_Net_along.bits2 : waitsOk impl_Net_along.T2.2 impl_Net_along.B2 = true := by kernel_rfl
set_option maxHeartbeats 200000000 in
set_option maxRecDepth 100000 in
theorem impl_Net_along.calls (k : Nat) (a0_0 : Int) (A0_1 : Option Addr) (c0_1 : Nat) (l0_1 : List (S37)) (A1 : Option Addr) (c1 : Nat) (l1 : List Int) (r : List Int) (w : World) (hr0_1 : Kd.C k37 w A0_1 l0_1.length l0_1) (hc0_1 : l0_1.length ≤ c0_1) (hr1 : Kd.C (Kd.int .i64) w A1 l1.length l1) (hc1 : l1.length ≤ c1) (h : impl_Net_along.f k a0_0 l0_1 l1 = some r) :
    Calls Try.prog 86 #[.agg #[.int .i64 a0_0, .slice A0_1 l0_1.length c0_1], .slice A1 l1.length c1] w fun e w' => ∃ v0_ : Value, e = .returned (v0_) ∧ Kd.R (Kd.int .i64) 3 w' w.heap.size (fun _ => True) v0_ r ∧ Below w.heap.size w w' := by
  have hu29 := Try.underlying29
  have HR0_1 := Aside0.mk hr0_1
  have HC0_1 := Aside0.mk hc0_1
  clear hr0_1 hc0_1
  have HR1 := Aside0.mk hr1
  have HC1 := Aside0.mk hc1
  clear hr1 hc1
  have HB := Aside0.mk (Below.refl w.heap.size w)
  have H : (if 0 ≤ (wrap64 ((l1.length : Int) + 1)) then (if (wrap64 ((l1.length : Int) + 1) : Int).toNat ≤ 35184372088832 then ((some (([] : List Int) : List Int)).bind fun y780 => (if 0 < (l1.length : Int) then (if 0 ≤ (rd l1 0) then (if (rd l1 0) < (l0_1.length : Int) then (if y780.length < 17592186044416 then (impl_Net_along.l0 k (y780 ++ [(rd_T37 l0_1 (rd l1 0)).f0]) l1 (l1.length : Int) 0 a0_0 l0_1) else (none)) else (none)) else (none)) else (none))) else (none)) else (none)) = some r := h
  clear h
  obtain ⟨ji3, hji3⟩ : ∃ j_ : Int, (wrap64 ((l1.length : Int) + 1)) = j_ := ⟨_, rfl⟩
  replace H : (if 0 ≤ (ji3) then (if (ji3 : Int).toNat ≤ 35184372088832 then ((some (([] : List Int) : List Int)).bind fun y780 => (if 0 < (l1.length : Int) then (if 0 ≤ (rd l1 0) then (if (rd l1 0) < (l0_1.length : Int) then (if y780.length < 17592186044416 then (impl_Net_along.l0 k (y780 ++ [(rd_T37 l0_1 (rd l1 0)).f0]) l1 (l1.length : Int) 0 a0_0 l0_1) else (none)) else (none)) else (none)) else (none))) else (none)) else (none)) = some r := by first | (rw [hji3] at H; exact H) | (simp only [hji3] at H ⊢; exact H)
  have hji3w : (IntKind.i64.wrap ((l1.length : Int) + 1)) = ji3 := (i64_w _).trans hji3
  by_cases c4 : 0 ≤ (ji3)
  rotate_left
  ·rw [if_neg c4] at H
   exact absurd H (by simp)

  rw [if_pos c4] at H
  have c4b0 := eq_true c4
  have c4b1 : decide (0 ≤ (ji3)) = true := decide_eq_true c4
  clear c4
  by_cases c5 : (ji3 : Int).toNat ≤ 35184372088832
  rotate_left
  ·rw [if_neg c5] at H
   exact absurd H (by simp)
  rw [if_pos c5] at H
  have c5b0 := eq_true c5
  have c5b1 : decide ((ji3 : Int).toNat ≤ 35184372088832) = true := decide_eq_true c5
  clear c5
  obtain ⟨y780, hy780⟩ : ∃ y_ : List Int, y_ = (([] : List Int)) := ⟨_, rfl⟩
  replace H : (if 0 < (l1.length : Int) then (if 0 ≤ (rd l1 0) then (if (rd l1 0) < (l0_1.length : Int) then (if y780.length < 17592186044416 then (impl_Net_along.l0 k (y780 ++ [(rd_T37 l0_1 (rd l1 0)).f0]) l1 (l1.length : Int) 0 a0_0 l0_1) else (none)) else (none)) else (none)) else (none)) = some r := by first | (rw [hy780]; with_reducible exact H) | (have H2_ := (Option.bind_some _ _).symm.trans H; rw [hy780]; with_reducible exact H2_) | (have H2_ := (Option.bind_some _ _).symm.trans H; with_reducible exact H2_) | with_reducible exact H | (rw [hy780]; exact H) | exact H
  have Ny780 := Aside0.mk hy780
  clear hy780
  by_cases c6 : 0 < (l1.length : Int)
  rotate_left
  ·rw [if_neg c6] at H
   exact absurd H (by simp)
  rw [if_pos c6] at H
  have c6b0 : decide (0 < (l1.length : Int)) = true := decide_eq_true c6
  have c6b1 : decide (0 < l1.length) = true := decide_eq_true (by omega)
  clear c6
  by_cases c7 : 0 ≤ (rd l1 0)
  rotate_left
  ·rw [if_neg c7] at H
   exact absurd H (by simp)
  rw [if_pos c7] at H
  have c7b0 : decide (0 ≤ (rd l1 0)) = true := decide_eq_true c7
  clear c7
  by_cases c8 : (rd l1 0) < (l0_1.length : Int)
  rotate_left
  ·rw [if_neg c8] at H
   exact absurd H (by simp)
  rw [if_pos c8] at H
  have c8b0 : decide ((rd l1 0) < (l0_1.length : Int)) = true := decide_eq_true c8
  clear c8
  by_cases c9 : y780.length < 17592186044416
  rotate_left
  ·rw [if_neg c9] at H
   exact absurd H (by simp)
  rw [if_pos c9] at H
  have LMc9 := Aside0.mk c9
  clear c9
  obtain ⟨y785, hy785⟩ : ∃ y_ : List Int, y_ = (y780 ++ [(rd_T37 l0_1 (rd l1 0)).f0]) := ⟨_, rfl⟩
  replace H : (impl_Net_along.l0 k y785 l1 (l1.length : Int) 0 a0_0 l0_1) = some r := by first | (rw [hy785]; with_reducible exact H) | (have H2_ := (Option.bind_some _ _).symm.trans H; rw [hy785]; with_reducible exact H2_) | (have H2_ := (Option.bind_some _ _).symm.trans H; with_reducible exact H2_) | with_reducible exact H | (rw [hy785]; exact H) | exact H
  have Ny785 := Aside0.mk hy785
  clear hy785
  have H' := Aside0.mk H
  clear H
  go_enter Try.func86, Try.ntmps86
  try go_wp2_with (first | ((with_reducible refine gate_dst (N := 2) rfl ?_); refine bx_ 2 #[.int .i64 a0_0, .slice A0_1 l0_1.length c0_1] 29 ?_; intro gb779 hg w10 hbox hb; have BK779 := Aside0.mk (hbox); have GW779 := Aside0.mk (zs_ hg (ne_ HB.out)); have GE779 := Aside0.mk (zs_ hg (ne_ HB.out)); replace HB := kB_ HB hb; clear hb hbox hg) | ((with_reducible refine gate_dst (N := 11) rfl ?_); refine Go.Proofs.YtpjmkghmjpbldaaX.Kd.R_make0 (Kd.int .i64) _ 3 rfl (N := 11) rfl 41 _ _ rfl ji3 rfl rfl Try.underlying41 (.int .i64 0) 8 info3 (by omega) (ok := fun _ => True) trivial (of_decide_eq_true nx_) (Nat.le_trans (Nat.mul_le_mul_right _ (of_decide_eq_true nx_ : (ji3 : Int).toNat ≤ 35184372088832)) (by omega)) (Below.refl _ _) (Nat.le_refl _) ?_; intro v781 w11 ho12 hb hg_ hnew_; clear hg_ hnew_; (first | rw [← Ny780.out] at ho12 | (simp only [Int.reduceToNat] at ho12; rw [← Ny780.out] at ho12)); have HO782 := Aside0.mk (Kd.R_lower ho12 (below_size (ne_ HB.out))); replace BK779 := kb_ BK779 hb; replace HB := kB_ HB hb; clear hb ho12))
  replace HO782 := Aside0.mk (Kd.R_drew HO782.out)
  replace BK779 := Aside0.mk (blk_drew BK779.out)
  replace HB := Aside0.mk (below_drew1 HB.out)
  have p783 : 0 ≤ (0 : Int) := (by omega)
  have q783 : 0 < (l1.length : Int) := of_decide_eq_true nx_
  obtain ⟨ad783, e783, hx783_0⟩ := Kd.at_int HR1.out 0 p783 q783
  have hw783_0 := hx783_0
  (try rw [show ((0 : Int)).toNat = 0 from rfl] at hw783_0)
  (try rw [show 0 * 1 = 0 from rfl] at hw783_0)
  (try rw [Addr.add_zero'] at hw783_0)
  cases e783
  have qi783 : (0 < l1.length) = True := eq_true (by omega)
  (try rw [show ((0 : Int)).toNat = 0 from rfl] at hx783_0)
  (try rw [Addr.add_zero'] at hx783_0)
  replace hx783_0 := hb_ HB.out hx783_0
  replace p783 := eq_true p783
  replace q783 := eq_true q783
  have p784 : 0 ≤ ((rd l1 0) : Int) := of_decide_eq_true nx_
  have q784 : (rd l1 0) < (l0_1.length : Int) := of_decide_eq_true nx_
  obtain ⟨ad784, e784, hx784_0, hx784_1, hx784_2, hx784_3, hx784_4⟩ := at_T37 HR0_1.out (rd l1 0) p784 q784
  have hw784_4 := hx784_4
  have hw784_3 := hx784_3
  have hw784_2 := hx784_2
  have hw784_1 := hx784_1
  have hw784_0 := hx784_0
  cases e784
  replace hx784_0 := hb_ HB.out hx784_0
  replace hx784_1 := hb_ HB.out hx784_1
  replace hx784_2 := hb_ HB.out hx784_2
  replace hx784_3 := hb_ HB.out hx784_3
  replace hx784_4 := hb_ HB.out hx784_4
  replace p784 := eq_true p784
  replace q784 := eq_true q784
  refine start_ (n := 12) (S := fun w' => w'.cell? ⟨gb779, 0, none⟩ = some (.int .i64 a0_0) ∧ w'.cell? ⟨gb779, 1, none⟩ = some (.slice (some ad784) l0_1.length c0_1) ∧ w'.cell? ad783 = some (.int .i64 (rd l1 0)) ∧ w'.cell? (ad784.add (((rd l1 0)).toNat * 5)) = some (.int .i64 ((rd_T37 l0_1 (rd l1 0)).f0)) ∧ w'.cell? ⟨(ad784.add (((rd l1 0)).toNat * 5)).block, (ad784.add (((rd l1 0)).toNat * 5)).off + 1, none⟩ = some (.int .i64 ((rd_T37 l0_1 (rd l1 0)).f1)) ∧ w'.cell? ⟨(ad784.add (((rd l1 0)).toNat * 5)).block, (ad784.add (((rd l1 0)).toNat * 5)).off + 2, none⟩ = some (.int .i64 ((rd_T37 l0_1 (rd l1 0)).f2)) ∧ w'.cell? ⟨(ad784.add (((rd l1 0)).toNat * 5)).block, (ad784.add (((rd l1 0)).toNat * 5)).off + 3, none⟩ = some (.int .i64 ((rd_T37 l0_1 (rd l1 0)).f3)) ∧ w'.cell? ⟨(ad784.add (((rd l1 0)).toNat * 5)).block, (ad784.add (((rd l1 0)).toNat * 5)).off + 4, none⟩ = some (.int .i64 ((rd_T37 l0_1 (rd l1 0)).f4))) (ds := []) (bm_ 12 0) (by kernel_rfl) rfl rfl ⟨ct_ BK779.out 0, ct_ BK779.out 1, ((HB.out.cell (World.block_lt_of_cell? w _ hw783_0)).trans hw783_0), ((HB.out.cell (World.block_lt_of_cell? w _ hw784_0)).trans hw784_0), ((HB.out.cell (World.block_lt_of_cell? w _ hw784_1)).trans hw784_1), ((HB.out.cell (World.block_lt_of_cell? w _ hw784_2)).trans hw784_2), ((HB.out.cell (World.block_lt_of_cell? w _ hw784_3)).trans hw784_3), ((HB.out.cell (World.block_lt_of_cell? w _ hw784_4)).trans hw784_4)⟩ (fun hHeld => ?_); refine with_tabW impl_Net_along.tab2 impl_Net_along.bits2 (fun HT_ HW_ => ?_)
  generalize w11.drew = w13 at HO782 BK779 HB hx783_0 hx784_0 hx784_1 hx784_2 hx784_3 hx784_4 hHeld ⊢
  refine pu_ 0 12 (bm_ 12 1) HT_.out ?_
  refine pu_ 1 13 (bm_ 12 3) HT_.out ?_
  refine pu_ 3 15 (bm_ 12 11) HT_.out ?_
  refine pu_ 4 16 (bm_ 12 27) HT_.out ?_
  refine tk_ 2 14 (bm_ 12 31) HT_.out HW_.out hHeld ?_
  refine tk_ 5 17 (bm_ 12 63) HT_.out HW_.out hHeld ?_
  refine pu_ 6 18 (bm_ 12 127) HT_.out ?_
  refine pu_ 7 19 (bm_ 12 255) HT_.out ?_
  refine tk_ 8 20 (bm_ 12 511) HT_.out HW_.out hHeld ?_
  refine one_ (i := 9) (N := some 21) (bm_ 12 1023) rfl rfl (one_of HT_.out (by kernel_rfl)) (by decide) (fun K hK => ?_)
  refine value_ (w1 := ?_) (v := ?_) (by rfl) rfl ?_ ?_
  rotate_left 2
  ·go_simp
   constructor
   ·rfl
   ·rfl
  refine hK.out _ _ ⟨(blk_cell (blk_alloc BK779.out _) 0).trans rfl, (blk_cell (blk_alloc BK779.out _) 1).trans rfl, (World.cell?_alloc_lt _ _ _ (World.block_lt_of_cell? _ _ (((HB.out.cell (World.block_lt_of_cell? w _ hw783_0)).trans hw783_0)))).trans (((HB.out.cell (World.block_lt_of_cell? w _ hw783_0)).trans hw783_0)), (World.cell?_alloc_lt _ _ _ (World.block_lt_of_cell? _ _ (((HB.out.cell (World.block_lt_of_cell? w _ hw784_0)).trans hw784_0)))).trans (((HB.out.cell (World.block_lt_of_cell? w _ hw784_0)).trans hw784_0)), (World.cell?_alloc_lt _ _ _ (World.block_lt_of_cell? _ _ (((HB.out.cell (World.block_lt_of_cell? w _ hw784_1)).trans hw784_1)))).trans (((HB.out.cell (World.block_lt_of_cell? w _ hw784_1)).trans hw784_1)), (World.cell?_alloc_lt _ _ _ (World.block_lt_of_cell? _ _ (((HB.out.cell (World.block_lt_of_cell? w _ hw784_2)).trans hw784_2)))).trans (((HB.out.cell (World.block_lt_of_cell? w _ hw784_2)).trans hw784_2)), (World.cell?_alloc_lt _ _ _ (World.block_lt_of_cell? _ _ (((HB.out.cell (World.block_lt_of_cell? w _ hw784_3)).trans hw784_3)))).trans (((HB.out.cell (World.block_lt_of_cell? w _ hw784_3)).trans hw784_3)), (World.cell?_alloc_lt _ _ _ (World.block_lt_of_cell? _ _ (((HB.out.cell (World.block_lt_of_cell? w _ hw784_4)).trans hw784_4)))).trans (((HB.out.cell (World.block_lt_of_cell? w _ hw784_4)).trans hw784_4))⟩ (fun hHeld => ?_)
  clear hK K
  refine nm1_ (some 21) ?_
  refine one_ (i := 10) (N := some 22) (bm_ 12 2047) rfl rfl (one_of HT_.out (by kernel_rfl)) (by decide) (fun K hK => ?_)
  refine Kd.R_append_step (Kd.int .i64) (w0 := w) w.heap.size (by rfl) (.tmp 12) (.tmp 21) 41 3 (.int .i64 0) 8 rfl Try.underlying41 info3 rfl (by decide) (by omega) v781 y780 ((rd_T37 l0_1 (rd l1 0)).f0) [.int .i64 ((rd_T37 l0_1 (rd l1 0)).f0)] (fun _ => True) (fun _ => False) rfl rfl ?aP (fun _ hk => hk.elim) ?aF ?aO ?aB ?aS ?aL ?_
  (case aP => exact rfl)
  (case aB => exact (ne_ HB.out))
  (case aF => exact (fun _ _ => trivial))
  (case aO => exact (nr_ HO782.out))
  (case aS => exact (below_size (ne_ HB.out)))
  (case aL => have := LMc9.out; omega)
  intro v786 w14 ho hb hg hat
  rw [← Ny785.out] at ho
  replace BK779 := Aside0.mk (blk_grown (g := gb779) (o := .cells #[.int .i64 a0_0, .slice (some ad784) l0_1.length c0_1] 29 (0, 0)) (nb_ BK779.out) hg (Kd.R_ne HO782.out BK779.out (by decide)))
  replace HB := Aside0.mk (hb)
  have HO787 := Aside0.mk (ho)
  clear HO782 ho hb hg hat
  refine hK.out _ _ ⟨ct_ BK779.out 0, ct_ BK779.out 1, ((HB.out.cell (World.block_lt_of_cell? w _ hw783_0)).trans hw783_0), ((HB.out.cell (World.block_lt_of_cell? w _ hw784_0)).trans hw784_0), ((HB.out.cell (World.block_lt_of_cell? w _ hw784_1)).trans hw784_1), ((HB.out.cell (World.block_lt_of_cell? w _ hw784_2)).trans hw784_2), ((HB.out.cell (World.block_lt_of_cell? w _ hw784_3)).trans hw784_3), ((HB.out.cell (World.block_lt_of_cell? w _ hw784_4)).trans hw784_4)⟩ (fun hHeld => ?_)
  clear hK K
  refine nm1_ (some 22) ?_
  refine pu_ 11 5 (bm_ 12 4095) HT_.out ?_
  refine done_ (done_of HT_.out (by kernel_rfl)) ?_
  try go_wp2
  go_loopg [5, 25] k (fun kq v5 v25 w' => ∃ (x5_1 : List Int) (x25_1 : Int), v25 = .int .i64 x25_1 ∧ Aside0 (impl_Net_along.l0 kq x5_1 l1 (l1.length : Int) x25_1 a0_0 l0_1 = some r) ∧ Aside0 (kq ≤ k) ∧ Aside0 (Kd.R (Kd.int .i64) 3 w' w.heap.size (fun _ => True) v5 x5_1) ∧ Aside0 (w'.heap[gb779]? = some (.cells #[.int .i64 a0_0, (.slice (some ad784) l0_1.length c0_1)] 29 (0, 0))) ∧ Aside0 (Below w.heap.size w w'))
  case atStart => exact ⟨(y785), (0), ns_, H', ⟨Nat.le_refl _⟩, ⟨nr_ HO787.out⟩, ⟨nb_ BK779.out⟩, ⟨ne_ HB.out⟩⟩
  case round =>
   clear H'
   try clear c1
   try clear c4
   try clear c4b0
   try clear c4b1
   try clear c5
   try clear c5b0
   try clear c5b1
   try clear c6
   try clear c6b0
   try clear c6b1
   try clear c7
   try clear c7b0
   try clear c8
   try clear c8b0
   try clear c9
   try clear hx783_0
   try clear hx784_0
   try clear hx784_1
   try clear hx784_2
   try clear hx784_3
   try clear hx784_4
   try clear p783
   try clear p784
   try clear q783
   try clear q784
   obtain ⟨x5_1, x25_1, rfl, HA, HK1, HO_5, BK779, HB⟩ := hrel
   cases gk with
   | zero => exact absurd HA.out (by simp [impl_Net_along.l0])
   | succ k1 =>
    have H := HA.out
    clear HA
    simp only [impl_Net_along.l0] at H
    by_cases c15 : x25_1 < (l1.length : Int)
    rotate_left
    ·rw [if_neg c15] at H
     have c15b0 : decide (x25_1 < (l1.length : Int)) = false := decide_eq_false c15
     clear c15
     obtain rfl := Option.some.inj H
     go_wp2
     go_ret
     exact ⟨_, by first | rfl | (simp [errW_none, errW_some] <;> rfl) | (simp only [← hji3]; first | rfl | (simp [errW_none, errW_some] <;> rfl)) | (simp [*, errW_none, errW_some] <;> rfl), nr_ HO_5.out, ne_ HB.out⟩
    rw [if_pos c15] at H
    have c15b0 : decide (x25_1 < (l1.length : Int)) = true := decide_eq_true c15
    clear c15
    by_cases c16 : 0 ≤ x25_1
    rotate_left
    ·rw [if_neg c16] at H
     exact absurd H (by simp)
    rw [if_pos c16] at H
    have c16b0 : decide (0 ≤ x25_1) = true := decide_eq_true c16
    clear c16
    by_cases c17 : x25_1 < (l1.length : Int)
    rotate_left
    ·rw [if_neg c17] at H
     exact absurd H (by simp)
    rw [if_pos c17] at H
    have c17b0 : decide (x25_1 < (l1.length : Int)) = true := decide_eq_true c17
    clear c17
    by_cases c18 : 0 ≤ (rd l1 x25_1)
    rotate_left
    ·rw [if_neg c18] at H
     exact absurd H (by simp)
    rw [if_pos c18] at H
    have c18b0 : decide (0 ≤ (rd l1 x25_1)) = true := decide_eq_true c18
    clear c18
    by_cases c19 : (rd l1 x25_1) < (l0_1.length : Int)
    rotate_left
    ·rw [if_neg c19] at H
     exact absurd H (by simp)
    rw [if_pos c19] at H
    have c19b0 : decide ((rd l1 x25_1) < (l0_1.length : Int)) = true := decide_eq_true c19
    clear c19
    by_cases c20 : x5_1.length < 17592186044416
    rotate_left
    ·rw [if_neg c20] at H
     exact absurd H (by simp)
    rw [if_pos c20] at H
    have LMc20 := Aside0.mk c20
    clear c20
    obtain ⟨y790, hy790⟩ : ∃ y_ : List Int, y_ = (x5_1 ++ [(rd_T37 l0_1 (rd l1 x25_1)).f1]) := ⟨_, rfl⟩
    replace H : (impl_Net_along.l0 k1 y790 l1 (l1.length : Int) (wrap64 (x25_1 + 1)) a0_0 l0_1) = some r := by first | (rw [hy790]; with_reducible exact H) | (have H2_ := (Option.bind_some _ _).symm.trans H; rw [hy790]; with_reducible exact H2_) | (have H2_ := (Option.bind_some _ _).symm.trans H; with_reducible exact H2_) | with_reducible exact H | (rw [hy790]; exact H) | exact H
    have Ny790 := Aside0.mk hy790
    clear hy790
    have H' := Aside0.mk H
    clear H
    have p788 : 0 ≤ (x25_1 : Int) := of_decide_eq_true nx_
    have q788 : x25_1 < (l1.length : Int) := of_decide_eq_true nx_
    obtain ⟨ad788, e788, hx788_0⟩ := Kd.at_int HR1.out x25_1 p788 q788
    obtain rfl : ad783 = ad788 := (by injection e788)
    replace hx788_0 := hb_ HB.out hx788_0
    replace p788 := eq_true p788
    replace q788 := eq_true q788
    obtain ⟨hcz21_0, hcz21_1, hfz21_0, hfz21_1⟩ := cz2_ BK779.out
    have p789 : 0 ≤ ((rd l1 x25_1) : Int) := of_decide_eq_true nx_
    have q789 : (rd l1 x25_1) < (l0_1.length : Int) := of_decide_eq_true nx_
    obtain ⟨ad789, e789, hx789_0, hx789_1, hx789_2, hx789_3, hx789_4⟩ := at_T37 HR0_1.out (rd l1 x25_1) p789 q789
    obtain rfl : ad784 = ad789 := (by injection e789)
    replace hx789_0 := hb_ HB.out hx789_0
    replace hx789_1 := hb_ HB.out hx789_1
    replace hx789_2 := hb_ HB.out hx789_2
    replace hx789_3 := hb_ HB.out hx789_3
    replace hx789_4 := hb_ HB.out hx789_4
    replace p789 := eq_true p789
    replace q789 := eq_true q789
    go_wp2_with (first | ((with_reducible refine gate_builtin (b := .append) (xs := #[.tmp 29, .tmp 36]) rfl ?_); at_builtin; refine Kd.R_append (Kd.int .i64) (w0 := w) w.heap.size rfl (.tmp 29) (.tmp 36) 41 3 (.int .i64 0) 8 rfl Try.underlying41 info3 rfl (by decide) (by omega) u5 x5_1 ((rd_T37 l0_1 (rd l1 x25_1)).f1) [.int .i64 ((rd_T37 l0_1 (rd l1 x25_1)).f1)] (fun _ => True) (fun _ => False) rfl rfl ?aP (fun _ hk => hk.elim) ?aF ?aO ?aB ?aS ?aL ?_; (case aP => exact rfl); (case aB => exact (ne_ HB.out)); (case aF => exact (fun _ _ => trivial)); (case aO => exact (nr_ HO_5.out)); (case aS => exact (below_size (ne_ HB.out))); (case aL => have := LMc20.out; omega); intro v791 w22 ho hb hg hat; rw [← Ny790.out] at ho; have HO792 := Aside0.mk (ho); replace BK779 := Aside0.mk (blk_grown (g := gb779) (o := .cells #[.int .i64 a0_0, .slice (some ad784) l0_1.length c0_1] 29 (0, 0)) (nb_ BK779.out) hg (Kd.R_ne HO_5.out BK779.out (by decide))); replace HB := Aside0.mk (hb); clear HO_5; clear ho hb hg hat))
    go_roundg k1
    case measure => have := HK1.out; omega
    case rel => exact ⟨(y790), (wrap64 (x25_1 + 1)), ns_, H', ⟨by have := HK1.out; omega⟩, ⟨nr_ HO792.out⟩, ⟨nb_ BK779.out⟩, ⟨ne_ HB.out⟩⟩
end Go.Proofs.Ytpjmkghmjpbldaa.Print
