-- Made by this session's own program (wip/patch_print.py, over the kit's print). Lean checks it.
import Derived.Test.YtgnnimhhkbbfiaaPrint0
namespace Go.Proofs.Ytgnnimhhkbbfiaa.Print
open Go.RowKit Go.Proofs.YtgnnimhhkbbfiaaW.PrintWords Go.Proofs.YtgnnimhhkbbfiaaW.PrintLast Go.Proofs.YtgnnimhhkbbfiaaW.PrintMore Go.Proofs.YtgnnimhhkbbfiaaX
attribute [local go_sem] max2_int min2_int max_two min_two max_three min_three max_four min_four   -- for this text's walks alone
set_option linter.unusedVariables false
set_option linter.unusedSimpArgs false

/-! ### impl_Net_along: function 23 -/
def impl_Net_along.l0 : Nat → List Int → List Int → Int → Int → Int → List (S47) → Option (List Int)
  | 0, _, _, _, _, _, _ => none
  | k + 1, x5, x23, x24, x25, x384000, x384001 => if x25 < x24 then (if 0 ≤ x25 then (if x25 < (x23.length : Int) then (if 0 ≤ (rd x23 x25) then (if (rd x23 x25) < (x384001.length : Int) then (if x5.length < 17592186044416 then (impl_Net_along.l0 k (x5 ++ [(rd_T47 x384001 (rd x23 x25)).f1]) x23 x24 (wrap64 (x25 + 1)) x384000 x384001) else (none)) else (none)) else (none)) else (none)) else (none)) else (some x5)
def impl_Net_along.f (k : Nat) (a0_0 : Int) (l0_1 : List (S47)) (l1 : List Int) : Option (List Int) := if 0 ≤ (wrap64 ((l1.length : Int) + 1)) then (if (wrap64 ((l1.length : Int) + 1) : Int).toNat ≤ 35184372088832 then ((some (([] : List Int) : List Int)).bind fun y384 => (if 0 < (l1.length : Int) then (if 0 ≤ (rd l1 0) then (if (rd l1 0) < (l0_1.length : Int) then (if y384.length < 17592186044416 then (impl_Net_along.l0 k (y384 ++ [(rd_T47 l0_1 (rd l1 0)).f0]) l1 (l1.length : Int) 0 a0_0 l0_1) else (none)) else (none)) else (none)) else (none))) else (none)) else (none)
theorem impl_Net_along.mono_l : ∀ k, (∀ y0 y1 y2 y3 y4 y5, LeO (impl_Net_along.l0 k y0 y1 y2 y3 y4 y5) (impl_Net_along.l0 (k + 1) y0 y1 y2 y3 y4 y5))
  | 0 => fun _ _ _ _ _ _ r h => by simp [impl_Net_along.l0] at h
  | k + 1 => by
    have ih0 := impl_Net_along.mono_l k
    · intro y0 y1 y2 y3 y4 y5
      unfold impl_Net_along.l0
      repeat' first | (with_reducible first | exact ih0 _ _ _ _ _ _ | exact LeO.refl _ | exact LeO.none _ | refine LeO.ite ?_ ?_ | refine LeO.bind ?_ (fun _ => ?_)) | exact ih0 _ _ _ _ _ _ | exact LeO.none _ | refine LeO.ite ?_ ?_ | refine LeO.bind ?_ (fun _ => ?_)
theorem impl_Net_along.mono : ∀ a0 a1 a2 k, LeO (impl_Net_along.f k a0 a1 a2) (impl_Net_along.f (k + 1) a0 a1 a2) := by
  intro a0 a1 a2 k
  have ih0 := impl_Net_along.mono_l k
  unfold impl_Net_along.f
  repeat' first | (with_reducible first | exact ih0 _ _ _ _ _ _ | exact LeO.refl _ | exact LeO.none _ | refine LeO.ite ?_ ?_ | refine LeO.bind ?_ (fun _ => ?_)) | exact ih0 _ _ _ _ _ _ | exact LeO.none _ | refine LeO.ite ?_ ?_ | refine LeO.bind ?_ (fun _ => ?_)
def impl_Net_along.T2 : Bool × List (List Nat × List Nat) := (true, [([], []), ([], []), ([1], [1]), ([], []), ([3], [3]), ([4], [4]), ([2, 5], [2, 5]), ([6], [6]), ([7], [7]), ([8], [8]), ([0, 9], [0, 9]), ([10, 10, 0, 1, 2, 3, 4, 5, 6, 7, 8, 9, 10], [0, 10])])
def impl_Net_along.B2 : List Nat := [0, 0, 2, 0, 8, 24, 62, 126, 254, 510, 1023, 2047]
theorem impl_Net_along.tab2 : rtab .any (opsOf Try.f23 2) = impl_Net_along.T2 := by kernel_rfl
theorem impl_Net_along.bits2 : waitsOk impl_Net_along.T2.2 impl_Net_along.B2 = true := by kernel_rfl
set_option maxHeartbeats 200000000 in
set_option maxRecDepth 100000 in
theorem impl_Net_along.calls (k : Nat) (a0_0 : Int) (A0_1 : Option Addr) (c0_1 : Nat) (l0_1 : List (S47)) (A1 : Option Addr) (c1 : Nat) (l1 : List Int) (r : List Int) (w : World) (hr0_1 : Kd.C k47 w A0_1 l0_1.length l0_1) (hc0_1 : l0_1.length ≤ c0_1) (hr1 : Kd.C (Kd.int .i64) w A1 l1.length l1) (hc1 : l1.length ≤ c1) (h : impl_Net_along.f k a0_0 l0_1 l1 = some r) :
    Calls Try.prog 23 #[.agg #[.int .i64 a0_0, .slice A0_1 l0_1.length c0_1], .slice A1 l1.length c1] w fun e w' => ∃ v0_ : Value, e = .returned (v0_) ∧ Kd.R (Kd.int .i64) 3 w' w.heap.size (fun _ => True) v0_ r ∧ Below w.heap.size w w' := by
  have hu25 := Try.underlying25
  have HR0_1 := Aside0.mk hr0_1
  have HC0_1 := Aside0.mk hc0_1
  clear hr0_1 hc0_1
  have HR1 := Aside0.mk hr1
  have HC1 := Aside0.mk hc1
  clear hr1 hc1
  have HB := Aside0.mk (Below.refl w.heap.size w)
  have H : (if 0 ≤ (wrap64 ((l1.length : Int) + 1)) then (if (wrap64 ((l1.length : Int) + 1) : Int).toNat ≤ 35184372088832 then ((some (([] : List Int) : List Int)).bind fun y384 => (if 0 < (l1.length : Int) then (if 0 ≤ (rd l1 0) then (if (rd l1 0) < (l0_1.length : Int) then (if y384.length < 17592186044416 then (impl_Net_along.l0 k (y384 ++ [(rd_T47 l0_1 (rd l1 0)).f0]) l1 (l1.length : Int) 0 a0_0 l0_1) else (none)) else (none)) else (none)) else (none))) else (none)) else (none)) = some r := h
  clear h
  obtain ⟨ji3, hji3⟩ : ∃ j_ : Int, (wrap64 ((l1.length : Int) + 1)) = j_ := ⟨_, rfl⟩
  replace H : (if 0 ≤ (ji3) then (if (ji3 : Int).toNat ≤ 35184372088832 then ((some (([] : List Int) : List Int)).bind fun y384 => (if 0 < (l1.length : Int) then (if 0 ≤ (rd l1 0) then (if (rd l1 0) < (l0_1.length : Int) then (if y384.length < 17592186044416 then (impl_Net_along.l0 k (y384 ++ [(rd_T47 l0_1 (rd l1 0)).f0]) l1 (l1.length : Int) 0 a0_0 l0_1) else (none)) else (none)) else (none)) else (none))) else (none)) else (none)) = some r := by first | (rw [hji3] at H; exact H) | (simp only [hji3] at H ⊢; exact H)
  have hji3w : (IntKind.i64.wrap ((l1.length : Int) + 1)) = ji3 := (i64_w _).trans hji3
  by_cases c4 : 0 ≤ (ji3)
  rotate_left
  ·rw [if_neg c4] at H
   exact absurd H (by simp)

  rw [if_pos c4] at H
  have c4b0 := eq_true c4
  have c4b1 : decide (0 ≤ (ji3)) = true := decide_eq_true c4
  clear c4
  by_cases c5 : (ji3 : Int).toNat ≤ 35184372088832
  rotate_left
  ·rw [if_neg c5] at H
   exact absurd H (by simp)
  rw [if_pos c5] at H
  have c5b0 := eq_true c5
  have c5b1 : decide ((ji3 : Int).toNat ≤ 35184372088832) = true := decide_eq_true c5
  clear c5
  obtain ⟨y384, hy384⟩ : ∃ y_ : List Int, y_ = (([] : List Int)) := ⟨_, rfl⟩
  replace H : (if 0 < (l1.length : Int) then (if 0 ≤ (rd l1 0) then (if (rd l1 0) < (l0_1.length : Int) then (if y384.length < 17592186044416 then (impl_Net_along.l0 k (y384 ++ [(rd_T47 l0_1 (rd l1 0)).f0]) l1 (l1.length : Int) 0 a0_0 l0_1) else (none)) else (none)) else (none)) else (none)) = some r := by first | (rw [hy384]; with_reducible exact H) | (have H2_ := (Option.bind_some _ _).symm.trans H; rw [hy384]; with_reducible exact H2_) | (have H2_ := (Option.bind_some _ _).symm.trans H; with_reducible exact H2_) | with_reducible exact H | (rw [hy384]; exact H) | exact H
  have Ny384 := Aside0.mk hy384
  clear hy384
  by_cases c6 : 0 < (l1.length : Int)
  rotate_left
  ·rw [if_neg c6] at H
   exact absurd H (by simp)
  rw [if_pos c6] at H
  have c6b0 : decide (0 < (l1.length : Int)) = true := decide_eq_true c6
  have c6b1 : decide (0 < l1.length) = true := decide_eq_true (by omega)
  clear c6
  by_cases c7 : 0 ≤ (rd l1 0)
  rotate_left
  ·rw [if_neg c7] at H
   exact absurd H (by simp)
  rw [if_pos c7] at H
  have c7b0 : decide (0 ≤ (rd l1 0)) = true := decide_eq_true c7
  clear c7
  by_cases c8 : (rd l1 0) < (l0_1.length : Int)
  rotate_left
  ·rw [if_neg c8] at H
   exact absurd H (by simp)
  rw [if_pos c8] at H
  have c8b0 : decide ((rd l1 0) < (l0_1.length : Int)) = true := decide_eq_true c8
  clear c8
  by_cases c9 : y384.length < 17592186044416
  rotate_left
  ·rw [if_neg c9] at H
   exact absurd H (by simp)
  rw [if_pos c9] at H
  have LMc9 := Aside0.mk c9
  clear c9
  obtain ⟨y389, hy389⟩ : ∃ y_ : List Int, y_ = (y384 ++ [(rd_T47 l0_1 (rd l1 0)).f0]) := ⟨_, rfl⟩
  replace H : (impl_Net_along.l0 k y389 l1 (l1.length : Int) 0 a0_0 l0_1) = some r := by first | (rw [hy389]; with_reducible exact H) | (have H2_ := (Option.bind_some _ _).symm.trans H; rw [hy389]; with_reducible exact H2_) | (have H2_ := (Option.bind_some _ _).symm.trans H; with_reducible exact H2_) | with_reducible exact H | (rw [hy389]; exact H) | exact H
  have Ny389 := Aside0.mk hy389
  clear hy389
  have H' := Aside0.mk H
  clear H
  go_enter Try.func23, Try.ntmps23
  try go_wp2_with (first | ((with_reducible refine gate_dst (N := 2) rfl ?_); refine bx_ 2 #[.int .i64 a0_0, .slice A0_1 l0_1.length c0_1] 25 ?_; intro gb383 hg w10 hbox hb; have BK383 := Aside0.mk (hbox); have GW383 := Aside0.mk (zs_ hg (ne_ HB.out)); have GE383 := Aside0.mk (zs_ hg (ne_ HB.out)); replace HB := kB_ HB hb; clear hb hbox hg) | ((with_reducible refine gate_dst (N := 11) rfl ?_); refine Go.Proofs.YtgnnimhhkbbfiaaX.Kd.R_make0 (Kd.int .i64) _ 3 rfl (N := 11) rfl 28 _ _ rfl ji3 rfl rfl Try.underlying28 (.int .i64 0) 8 info3 (by omega) (ok := fun _ => True) trivial (of_decide_eq_true nx_) (Nat.le_trans (Nat.mul_le_mul_right _ (of_decide_eq_true nx_ : (ji3 : Int).toNat ≤ 35184372088832)) (by omega)) (Below.refl _ _) (Nat.le_refl _) ?_; intro v385 w11 ho12 hb hg_ hnew_; clear hg_ hnew_; (first | rw [← Ny384.out] at ho12 | (simp only [Int.reduceToNat] at ho12; rw [← Ny384.out] at ho12)); have HO386 := Aside0.mk (Kd.R_lower ho12 (below_size (ne_ HB.out))); replace BK383 := kb_ BK383 hb; replace HB := kB_ HB hb; clear hb ho12))
  replace HO386 := Aside0.mk (Kd.R_drew HO386.out)
  replace BK383 := Aside0.mk (blk_drew BK383.out)
  replace HB := Aside0.mk (below_drew1 HB.out)
  have p387 : 0 ≤ (0 : Int) := (by omega)
  have q387 : 0 < (l1.length : Int) := of_decide_eq_true nx_
  obtain ⟨ad387, e387, hx387_0⟩ := Kd.at_int HR1.out 0 p387 q387
  have hw387_0 := hx387_0
  (try rw [show ((0 : Int)).toNat = 0 from rfl] at hw387_0)
  (try rw [show 0 * 1 = 0 from rfl] at hw387_0)
  (try rw [Addr.add_zero'] at hw387_0)
  cases e387
  have qi387 : (0 < l1.length) = True := eq_true (by omega)
  (try rw [show ((0 : Int)).toNat = 0 from rfl] at hx387_0)
  (try rw [Addr.add_zero'] at hx387_0)
  replace hx387_0 := hb_ HB.out hx387_0
  replace p387 := eq_true p387
  replace q387 := eq_true q387
  have p388 : 0 ≤ ((rd l1 0) : Int) := of_decide_eq_true nx_
  have q388 : (rd l1 0) < (l0_1.length : Int) := of_decide_eq_true nx_
  obtain ⟨ad388, e388, hx388_0, hx388_1, hx388_2, hx388_3, hx388_4⟩ := at_T47 HR0_1.out (rd l1 0) p388 q388
  have hw388_4 := hx388_4
  have hw388_3 := hx388_3
  have hw388_2 := hx388_2
  have hw388_1 := hx388_1
  have hw388_0 := hx388_0
  cases e388
  replace hx388_0 := hb_ HB.out hx388_0
  replace hx388_1 := hb_ HB.out hx388_1
  replace hx388_2 := hb_ HB.out hx388_2
  replace hx388_3 := hb_ HB.out hx388_3
  replace hx388_4 := hb_ HB.out hx388_4
  replace p388 := eq_true p388
  replace q388 := eq_true q388
  refine start_ (n := 12) (S := fun w' => w'.cell? ⟨gb383, 0, none⟩ = some (.int .i64 a0_0) ∧ w'.cell? ⟨gb383, 1, none⟩ = some (.slice (some ad388) l0_1.length c0_1) ∧ w'.cell? ad387 = some (.int .i64 (rd l1 0)) ∧ w'.cell? (ad388.add (((rd l1 0)).toNat * 5)) = some (.int .i64 ((rd_T47 l0_1 (rd l1 0)).f0)) ∧ w'.cell? ⟨(ad388.add (((rd l1 0)).toNat * 5)).block, (ad388.add (((rd l1 0)).toNat * 5)).off + 1, none⟩ = some (.int .i64 ((rd_T47 l0_1 (rd l1 0)).f1)) ∧ w'.cell? ⟨(ad388.add (((rd l1 0)).toNat * 5)).block, (ad388.add (((rd l1 0)).toNat * 5)).off + 2, none⟩ = some (.int .i64 ((rd_T47 l0_1 (rd l1 0)).f2)) ∧ w'.cell? ⟨(ad388.add (((rd l1 0)).toNat * 5)).block, (ad388.add (((rd l1 0)).toNat * 5)).off + 3, none⟩ = some (.int .i64 ((rd_T47 l0_1 (rd l1 0)).f3)) ∧ w'.cell? ⟨(ad388.add (((rd l1 0)).toNat * 5)).block, (ad388.add (((rd l1 0)).toNat * 5)).off + 4, none⟩ = some (.int .i64 ((rd_T47 l0_1 (rd l1 0)).f4))) (ds := []) (bm_ 12 0) (by kernel_rfl) rfl rfl ⟨ct_ BK383.out 0, ct_ BK383.out 1, ((HB.out.cell (World.block_lt_of_cell? w _ hw387_0)).trans hw387_0), ((HB.out.cell (World.block_lt_of_cell? w _ hw388_0)).trans hw388_0), ((HB.out.cell (World.block_lt_of_cell? w _ hw388_1)).trans hw388_1), ((HB.out.cell (World.block_lt_of_cell? w _ hw388_2)).trans hw388_2), ((HB.out.cell (World.block_lt_of_cell? w _ hw388_3)).trans hw388_3), ((HB.out.cell (World.block_lt_of_cell? w _ hw388_4)).trans hw388_4)⟩ (fun hHeld => ?_); refine with_tabW impl_Net_along.tab2 impl_Net_along.bits2 (fun HT_ HW_ => ?_)
  generalize w11.drew = w13 at HO386 BK383 HB hx387_0 hx388_0 hx388_1 hx388_2 hx388_3 hx388_4 hHeld ⊢
  refine pu_ 0 12 (bm_ 12 1) HT_.out ?_
  refine pu_ 1 13 (bm_ 12 3) HT_.out ?_
  refine pu_ 3 15 (bm_ 12 11) HT_.out ?_
  refine pu_ 4 16 (bm_ 12 27) HT_.out ?_
  refine tk_ 2 14 (bm_ 12 31) HT_.out HW_.out hHeld ?_
  refine tk_ 5 17 (bm_ 12 63) HT_.out HW_.out hHeld ?_
  refine pu_ 6 18 (bm_ 12 127) HT_.out ?_
  refine pu_ 7 19 (bm_ 12 255) HT_.out ?_
  refine tk_ 8 20 (bm_ 12 511) HT_.out HW_.out hHeld ?_
  refine one_ (i := 9) (N := some 21) (bm_ 12 1023) rfl rfl (one_of HT_.out (by kernel_rfl)) (by decide) (fun K hK => ?_)
  refine value_ (w1 := ?_) (v := ?_) (by rfl) rfl ?_ ?_
  rotate_left 2
  ·go_simp
   constructor
   ·rfl
   ·rfl
  refine hK.out _ _ ⟨(blk_cell (blk_alloc BK383.out _) 0).trans rfl, (blk_cell (blk_alloc BK383.out _) 1).trans rfl, (World.cell?_alloc_lt _ _ _ (World.block_lt_of_cell? _ _ (((HB.out.cell (World.block_lt_of_cell? w _ hw387_0)).trans hw387_0)))).trans (((HB.out.cell (World.block_lt_of_cell? w _ hw387_0)).trans hw387_0)), (World.cell?_alloc_lt _ _ _ (World.block_lt_of_cell? _ _ (((HB.out.cell (World.block_lt_of_cell? w _ hw388_0)).trans hw388_0)))).trans (((HB.out.cell (World.block_lt_of_cell? w _ hw388_0)).trans hw388_0)), (World.cell?_alloc_lt _ _ _ (World.block_lt_of_cell? _ _ (((HB.out.cell (World.block_lt_of_cell? w _ hw388_1)).trans hw388_1)))).trans (((HB.out.cell (World.block_lt_of_cell? w _ hw388_1)).trans hw388_1)), (World.cell?_alloc_lt _ _ _ (World.block_lt_of_cell? _ _ (((HB.out.cell (World.block_lt_of_cell? w _ hw388_2)).trans hw388_2)))).trans (((HB.out.cell (World.block_lt_of_cell? w _ hw388_2)).trans hw388_2)), (World.cell?_alloc_lt _ _ _ (World.block_lt_of_cell? _ _ (((HB.out.cell (World.block_lt_of_cell? w _ hw388_3)).trans hw388_3)))).trans (((HB.out.cell (World.block_lt_of_cell? w _ hw388_3)).trans hw388_3)), (World.cell?_alloc_lt _ _ _ (World.block_lt_of_cell? _ _ (((HB.out.cell (World.block_lt_of_cell? w _ hw388_4)).trans hw388_4)))).trans (((HB.out.cell (World.block_lt_of_cell? w _ hw388_4)).trans hw388_4))⟩ (fun hHeld => ?_)
  clear hK K
  refine nm1_ (some 21) ?_
  refine one_ (i := 10) (N := some 22) (bm_ 12 2047) rfl rfl (one_of HT_.out (by kernel_rfl)) (by decide) (fun K hK => ?_)
  refine Kd.R_append_step (Kd.int .i64) (w0 := w) w.heap.size (by rfl) (.tmp 12) (.tmp 21) 28 3 (.int .i64 0) 8 rfl Try.underlying28 info3 rfl (by decide) (by omega) v385 y384 ((rd_T47 l0_1 (rd l1 0)).f0) [.int .i64 ((rd_T47 l0_1 (rd l1 0)).f0)] (fun _ => True) (fun _ => False) rfl rfl ?aP (fun _ hk => hk.elim) ?aF ?aO ?aB ?aS ?aL ?_
  (case aP => exact rfl)
  (case aB => exact (ne_ HB.out))
  (case aF => exact (fun _ _ => trivial))
  (case aO => exact (nr_ HO386.out))
  (case aS => exact (below_size (ne_ HB.out)))
  (case aL => have := LMc9.out; omega)
  intro v390 w14 ho hb hg hat
  rw [← Ny389.out] at ho
  replace BK383 := Aside0.mk (blk_grown (g := gb383) (o := .cells #[.int .i64 a0_0, .slice (some ad388) l0_1.length c0_1] 25 (0, 0)) (nb_ BK383.out) hg (Kd.R_ne HO386.out BK383.out (by decide)))
  replace HB := Aside0.mk (hb)
  have HO391 := Aside0.mk (ho)
  clear HO386 ho hb hg hat
  refine hK.out _ _ ⟨ct_ BK383.out 0, ct_ BK383.out 1, ((HB.out.cell (World.block_lt_of_cell? w _ hw387_0)).trans hw387_0), ((HB.out.cell (World.block_lt_of_cell? w _ hw388_0)).trans hw388_0), ((HB.out.cell (World.block_lt_of_cell? w _ hw388_1)).trans hw388_1), ((HB.out.cell (World.block_lt_of_cell? w _ hw388_2)).trans hw388_2), ((HB.out.cell (World.block_lt_of_cell? w _ hw388_3)).trans hw388_3), ((HB.out.cell (World.block_lt_of_cell? w _ hw388_4)).trans hw388_4)⟩ (fun hHeld => ?_)
  clear hK K
  refine nm1_ (some 22) ?_
  refine pu_ 11 5 (bm_ 12 4095) HT_.out ?_
  refine done_ (done_of HT_.out (by kernel_rfl)) ?_
  try go_wp2
  go_loopg [5, 25] k (fun kq v5 v25 w' => ∃ (x5_1 : List Int) (x25_1 : Int), v25 = .int .i64 x25_1 ∧ Aside0 (impl_Net_along.l0 kq x5_1 l1 (l1.length : Int) x25_1 a0_0 l0_1 = some r) ∧ Aside0 (kq ≤ k) ∧ Aside0 (Kd.R (Kd.int .i64) 3 w' w.heap.size (fun _ => True) v5 x5_1) ∧ Aside0 (w'.heap[gb383]? = some (.cells #[.int .i64 a0_0, (.slice (some ad388) l0_1.length c0_1)] 25 (0, 0))) ∧ Aside0 (Below w.heap.size w w'))
  case atStart => exact ⟨(y389), (0), ns_, H', ⟨Nat.le_refl _⟩, ⟨nr_ HO391.out⟩, ⟨nb_ BK383.out⟩, ⟨ne_ HB.out⟩⟩
  case round =>
   clear H'
   try clear c1
   try clear c4
   try clear c4b0
   try clear c4b1
   try clear c5
   try clear c5b0
   try clear c5b1
   try clear c6
   try clear c6b0
   try clear c6b1
   try clear c7
   try clear c7b0
   try clear c8
   try clear c8b0
   try clear c9
   try clear hx387_0
   try clear hx388_0
   try clear hx388_1
   try clear hx388_2
   try clear hx388_3
   try clear hx388_4
   try clear p387
   try clear p388
   try clear q387
   try clear q388
   obtain ⟨x5_1, x25_1, rfl, HA, HK1, HO_5, BK383, HB⟩ := hrel
   cases gk with
   | zero => exact absurd HA.out (by simp [impl_Net_along.l0])
   | succ k1 =>
    have H := HA.out
    clear HA
    simp only [impl_Net_along.l0] at H
    by_cases c15 : x25_1 < (l1.length : Int)
    rotate_left
    ·rw [if_neg c15] at H
     have c15b0 : decide (x25_1 < (l1.length : Int)) = false := decide_eq_false c15
     clear c15
     obtain rfl := Option.some.inj H
     go_wp2
     go_ret
     exact ⟨_, by first | rfl | (simp [errW_none, errW_some] <;> rfl) | (simp only [← hji3]; first | rfl | (simp [errW_none, errW_some] <;> rfl)) | (simp [*, errW_none, errW_some] <;> rfl), nr_ HO_5.out, ne_ HB.out⟩
    rw [if_pos c15] at H
    have c15b0 : decide (x25_1 < (l1.length : Int)) = true := decide_eq_true c15
    clear c15
    by_cases c16 : 0 ≤ x25_1
    rotate_left
    ·rw [if_neg c16] at H
     exact absurd H (by simp)
    rw [if_pos c16] at H
    have c16b0 : decide (0 ≤ x25_1) = true := decide_eq_true c16
    clear c16
    by_cases c17 : x25_1 < (l1.length : Int)
    rotate_left
    ·rw [if_neg c17] at H
     exact absurd H (by simp)
    rw [if_pos c17] at H
    have c17b0 : decide (x25_1 < (l1.length : Int)) = true := decide_eq_true c17
    clear c17
    by_cases c18 : 0 ≤ (rd l1 x25_1)
    rotate_left
    ·rw [if_neg c18] at H
     exact absurd H (by simp)
    rw [if_pos c18] at H
    have c18b0 : decide (0 ≤ (rd l1 x25_1)) = true := decide_eq_true c18
    clear c18
    by_cases c19 : (rd l1 x25_1) < (l0_1.length : Int)
    rotate_left
    ·rw [if_neg c19] at H
     exact absurd H (by simp)
    rw [if_pos c19] at H
    have c19b0 : decide ((rd l1 x25_1) < (l0_1.length : Int)) = true := decide_eq_true c19
    clear c19
    by_cases c20 : x5_1.length < 17592186044416
    rotate_left
    ·rw [if_neg c20] at H
     exact absurd H (by simp)
    rw [if_pos c20] at H
    have LMc20 := Aside0.mk c20
    clear c20
    obtain ⟨y394, hy394⟩ : ∃ y_ : List Int, y_ = (x5_1 ++ [(rd_T47 l0_1 (rd l1 x25_1)).f1]) := ⟨_, rfl⟩
    replace H : (impl_Net_along.l0 k1 y394 l1 (l1.length : Int) (wrap64 (x25_1 + 1)) a0_0 l0_1) = some r := by first | (rw [hy394]; with_reducible exact H) | (have H2_ := (Option.bind_some _ _).symm.trans H; rw [hy394]; with_reducible exact H2_) | (have H2_ := (Option.bind_some _ _).symm.trans H; with_reducible exact H2_) | with_reducible exact H | (rw [hy394]; exact H) | exact H
    have Ny394 := Aside0.mk hy394
    clear hy394
    have H' := Aside0.mk H
    clear H
    have p392 : 0 ≤ (x25_1 : Int) := of_decide_eq_true nx_
    have q392 : x25_1 < (l1.length : Int) := of_decide_eq_true nx_
    obtain ⟨ad392, e392, hx392_0⟩ := Kd.at_int HR1.out x25_1 p392 q392
    obtain rfl : ad387 = ad392 := (by injection e392)
    replace hx392_0 := hb_ HB.out hx392_0
    replace p392 := eq_true p392
    replace q392 := eq_true q392
    obtain ⟨hcz21_0, hcz21_1, hfz21_0, hfz21_1⟩ := cz2_ BK383.out
    have p393 : 0 ≤ ((rd l1 x25_1) : Int) := of_decide_eq_true nx_
    have q393 : (rd l1 x25_1) < (l0_1.length : Int) := of_decide_eq_true nx_
    obtain ⟨ad393, e393, hx393_0, hx393_1, hx393_2, hx393_3, hx393_4⟩ := at_T47 HR0_1.out (rd l1 x25_1) p393 q393
    obtain rfl : ad388 = ad393 := (by injection e393)
    replace hx393_0 := hb_ HB.out hx393_0
    replace hx393_1 := hb_ HB.out hx393_1
    replace hx393_2 := hb_ HB.out hx393_2
    replace hx393_3 := hb_ HB.out hx393_3
    replace hx393_4 := hb_ HB.out hx393_4
    replace p393 := eq_true p393
    replace q393 := eq_true q393
    go_wp2_with (first | ((with_reducible refine gate_builtin (b := .append) (xs := #[.tmp 29, .tmp 36]) rfl ?_); at_builtin; refine Kd.R_append (Kd.int .i64) (w0 := w) w.heap.size rfl (.tmp 29) (.tmp 36) 28 3 (.int .i64 0) 8 rfl Try.underlying28 info3 rfl (by decide) (by omega) u5 x5_1 ((rd_T47 l0_1 (rd l1 x25_1)).f1) [.int .i64 ((rd_T47 l0_1 (rd l1 x25_1)).f1)] (fun _ => True) (fun _ => False) rfl rfl ?aP (fun _ hk => hk.elim) ?aF ?aO ?aB ?aS ?aL ?_; (case aP => exact rfl); (case aB => exact (ne_ HB.out)); (case aF => exact (fun _ _ => trivial)); (case aO => exact (nr_ HO_5.out)); (case aS => exact (below_size (ne_ HB.out))); (case aL => have := LMc20.out; omega); intro v395 w22 ho hb hg hat; rw [← Ny394.out] at ho; have HO396 := Aside0.mk (ho); replace BK383 := Aside0.mk (blk_grown (g := gb383) (o := .cells #[.int .i64 a0_0, .slice (some ad388) l0_1.length c0_1] 25 (0, 0)) (nb_ BK383.out) hg (Kd.R_ne HO_5.out BK383.out (by decide))); replace HB := Aside0.mk (hb); clear HO_5; clear ho hb hg hat))
    go_roundg k1
    case measure => have := HK1.out; omega
    case rel => exact ⟨(y394), (wrap64 (x25_1 + 1)), ns_, H', ⟨by have := HK1.out; omega⟩, ⟨nr_ HO396.out⟩, ⟨nb_ BK383.out⟩, ⟨ne_ HB.out⟩⟩
end Go.Proofs.Ytgnnimhhkbbfiaa.Print
