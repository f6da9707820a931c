-- Made by this session's own program (wip/patch_print.py, over the kit's print). Lean checks it.
import Derived.Test.YtpjmkghmjpbldaaPrint0
namespace Go.Proofs.Ytpjmkghmjpbldaa.Print
open Go.RowKit Go.Proofs.YtpjmkghmjpbldaaW.PrintWords Go.Proofs.YtpjmkghmjpbldaaW.PrintLast Go.Proofs.YtpjmkghmjpbldaaW.PrintMore Go.Proofs.YtpjmkghmjpbldaaX
attribute [local go_sem] max2_int min2_int max_two min_two max_three min_three max_four min_four   -- for this text's walks alone
set_option linter.unusedVariables false
set_option linter.unusedSimpArgs false

/-! ### impl_Net_along: function 86 -/
def impl_Net_along.l0 : Nat → List Int → List Int → Int → Int → Int → List (S37) → Option (List Int)
  | 0, _, _, _, _, _, _ => none
  | k + 1, x5, x23, x24, x25, x769000, x769001 => if x25 < x24 then (if 0 ≤ x25 then (if x25 < (x23.length : Int) then (if 0 ≤ (rd x23 x25) then (if (rd x23 x25) < (x769001.length : Int) then (if x5.length < 17592186044416 then (impl_Net_along.l0 k (x5 ++ [(rd_T37 x769001 (rd x23 x25)).f1]) x23 x24 (wrap64 (x25 + 1)) x769000 x769001) else (none)) else (none)) else (none)) else (none)) else (none)) else (some x5)
def impl_Net_along.f (k : Nat) (a0_0 : Int) (l0_1 : List (S37)) (l1 : List Int) : Option (List Int) := if 0 ≤ (wrap64 ((l1.length : Int) + 1)) then (if (wrap64 ((l1.length : Int) + 1) : Int).toNat ≤ 35184372088832 then ((some (([] : List Int) : List Int)).bind fun y769 => (if 0 < (l1.length : Int) then (if 0 ≤ (rd l1 0) then (if (rd l1 0) < (l0_1.length : Int) then (if y769.length < 17592186044416 then (impl_Net_along.l0 k (y769 ++ [(rd_T37 l0_1 (rd l1 0)).f0]) l1 (l1.length : Int) 0 a0_0 l0_1) else (none)) else (none)) else (none)) else (none))) else (none)) else (none)
theorem impl_Net_along.mono_l : ∀ k, (∀ y0 y1 y2 y3 y4 y5, LeO (impl_Net_along.l0 k y0 y1 y2 y3 y4 y5) (impl_Net_along.l0 (k + 1) y0 y1 y2 y3 y4 y5))
  | 0 => fun _ _ _ _ _ _ r h => by simp [impl_Net_along.l0] at h
  | k + 1 => by
    have ih0 := impl_Net_along.mono_l k
    · intro y0 y1 y2 y3 y4 y5
      unfold impl_Net_along.l0
      repeat' first
      | (with_reducible exact ih0 _ _ _ _ _ _)
      | (with_reducible exact LeO.refl _)
      | (with_reducible exact LeO.none _)
      | (with_reducible refine LeO.ite ?_ ?_)
      | (with_reducible refine LeO.bind ?_ (fun _ => ?_))
      | exact ih0 _ _ _ _ _ _
      | exact LeO.none _
      | refine LeO.ite ?_ ?_
      | refine LeO.bind ?_ (fun _ => ?_)
theorem impl_Net_along.mono : ∀ a0 a1 a2 k, LeO (impl_Net_along.f k a0 a1 a2) (impl_Net_along.f (k + 1) a0 a1 a2) := by
  intro a0 a1 a2 k
  have ih0 := impl_Net_along.mono_l k
  unfold impl_Net_along.f
  repeat' first
      | (with_reducible exact ih0 _ _ _ _ _ _)
      | (with_reducible exact LeO.refl _)
      | (with_reducible exact LeO.none _)
      | (with_reducible refine LeO.ite ?_ ?_)
      | (with_reducible refine LeO.bind ?_ (fun _ => ?_))
      | exact ih0 _ _ _ _ _ _
      | exact LeO.none _
      | refine LeO.ite ?_ ?_
      | refine LeO.bind ?_ (fun _ => ?_)
def impl_Net_along.T2 : Bool × List (List Nat × List Nat) := (true, [([], []), ([], []), ([1], [1]), ([], []), ([3], [3]), ([4], [4]), ([2, 5], [2, 5]), ([6], [6]), ([7], [7]), ([8], [8]), ([0, 9], [0, 9]), ([10, 10, 0, 1, 2, 3, 4, 5, 6, 7, 8, 9, 10], [0, 10])])
def impl_Net_along.B2 : List Nat := [0, 0, 2, 0, 8, 24, 62, 126, 254, 510, 1023, 2047]
theorem impl_Net_along.tab2 : rtab .any (opsOf Try.f86 2) = impl_Net_along.T2 := by kernel_rfl
theorem impl_Net_along.bits2 : waitsOk impl_Net_along.T2.2 impl_Net_along.B2 = true := by kernel_rfl
set_option maxHeartbeats 8000000 in
set_option maxRecDepth 100000 in
theorem impl_Net_along.calls (k : Nat) (a0_0 : Int) (A0_1 : Option Addr) (c0_1 : Nat) (l0_1 : List (S37)) (A1 : Option Addr) (c1 : Nat) (l1 : List Int) (r : List Int) (w : World) (hr0_1 : Kd.C k37 w A0_1 l0_1.length l0_1) (hc0_1 : l0_1.length ≤ c0_1) (hr1 : Kd.C (Kd.int .i64) w A1 l1.length l1) (hc1 : l1.length ≤ c1) (h : impl_Net_along.f k a0_0 l0_1 l1 = some r) :
    Calls Try.prog 86 #[.agg #[.int .i64 a0_0, .slice A0_1 l0_1.length c0_1], .slice A1 l1.length c1] w fun e w' => ∃ v0_ : Value, e = .returned (v0_) ∧ Kd.R (Kd.int .i64) 3 w' w.heap.size (fun _ => True) v0_ r ∧ Below w.heap.size w w' := by
  have hu29 := Try.underlying29
  have HR0_1 := Aside0.mk hr0_1
  have HC0_1 := Aside0.mk hc0_1
  clear hr0_1 hc0_1
  have HR1 := Aside0.mk hr1
  have HC1 := Aside0.mk hc1
  clear hr1 hc1
  have HB := Aside0.mk (Below.refl w.heap.size w)
  have H : (if 0 ≤ (wrap64 ((l1.length : Int) + 1)) then (if (wrap64 ((l1.length : Int) + 1) : Int).toNat ≤ 35184372088832 then ((some (([] : List Int) : List Int)).bind fun y769 => (if 0 < (l1.length : Int) then (if 0 ≤ (rd l1 0) then (if (rd l1 0) < (l0_1.length : Int) then (if y769.length < 17592186044416 then (impl_Net_along.l0 k (y769 ++ [(rd_T37 l0_1 (rd l1 0)).f0]) l1 (l1.length : Int) 0 a0_0 l0_1) else (none)) else (none)) else (none)) else (none))) else (none)) else (none)) = some r := h
  clear h
  obtain ⟨ji3, hji3⟩ : ∃ j_ : Int, (wrap64 ((l1.length : Int) + 1)) = j_ := ⟨_, rfl⟩
  replace H : (if 0 ≤ (ji3) then (if (ji3 : Int).toNat ≤ 35184372088832 then ((some (([] : List Int) : List Int)).bind fun y769 => (if 0 < (l1.length : Int) then (if 0 ≤ (rd l1 0) then (if (rd l1 0) < (l0_1.length : Int) then (if y769.length < 17592186044416 then (impl_Net_along.l0 k (y769 ++ [(rd_T37 l0_1 (rd l1 0)).f0]) l1 (l1.length : Int) 0 a0_0 l0_1) else (none)) else (none)) else (none)) else (none))) else (none)) else (none)) = some r := by first | (rw [hji3] at H; exact H) | (simp only [hji3] at H ⊢; exact H)
  have hji3w : (IntKind.i64.wrap ((l1.length : Int) + 1)) = ji3 := (i64_w _).trans hji3
  by_cases c4 : 0 ≤ (ji3)
  ·rw [if_pos c4] at H
   have c4b0 := eq_true c4
   have c4b1 : decide (0 ≤ (ji3)) = true := decide_eq_true c4
   clear c4
   by_cases c5 : (ji3 : Int).toNat ≤ 35184372088832
   ·rw [if_pos c5] at H
    have c5b0 := eq_true c5
    have c5b1 : decide ((ji3 : Int).toNat ≤ 35184372088832) = true := decide_eq_true c5
    clear c5
    obtain ⟨y769, hy769⟩ : ∃ y_ : List Int, y_ = (([] : List Int)) := ⟨_, rfl⟩
    replace H : (if 0 < (l1.length : Int) then (if 0 ≤ (rd l1 0) then (if (rd l1 0) < (l0_1.length : Int) then (if y769.length < 17592186044416 then (impl_Net_along.l0 k (y769 ++ [(rd_T37 l0_1 (rd l1 0)).f0]) l1 (l1.length : Int) 0 a0_0 l0_1) else (none)) else (none)) else (none)) else (none)) = some r := by first | (rw [hy769]; with_reducible exact H) | (have H2_ := (Option.bind_some _ _).symm.trans H; rw [hy769]; with_reducible exact H2_) | (have H2_ := (Option.bind_some _ _).symm.trans H; with_reducible exact H2_) | with_reducible exact H | (rw [hy769]; exact H) | exact H
    have Ny769 := Aside0.mk hy769
    clear hy769
    by_cases c6 : 0 < (l1.length : Int)
    ·rw [if_pos c6] at H
     have c6b0 : decide (0 < (l1.length : Int)) = true := decide_eq_true c6
     have c6b1 : decide (0 < l1.length) = true := decide_eq_true (by omega)
     clear c6
     by_cases c7 : 0 ≤ (rd l1 0)
     ·rw [if_pos c7] at H
      have c7b0 : decide (0 ≤ (rd l1 0)) = true := decide_eq_true c7
      clear c7
      by_cases c8 : (rd l1 0) < (l0_1.length : Int)
      ·rw [if_pos c8] at H
       have c8b0 : decide ((rd l1 0) < (l0_1.length : Int)) = true := decide_eq_true c8
       clear c8
       by_cases c9 : y769.length < 17592186044416
       ·rw [if_pos c9] at H
        have LMc9 := Aside0.mk c9
        clear c9
        obtain ⟨y774, hy774⟩ : ∃ y_ : List Int, y_ = (y769 ++ [(rd_T37 l0_1 (rd l1 0)).f0]) := ⟨_, rfl⟩
        replace H : (impl_Net_along.l0 k y774 l1 (l1.length : Int) 0 a0_0 l0_1) = some r := by first | (rw [hy774]; with_reducible exact H) | (have H2_ := (Option.bind_some _ _).symm.trans H; rw [hy774]; with_reducible exact H2_) | (have H2_ := (Option.bind_some _ _).symm.trans H; with_reducible exact H2_) | with_reducible exact H | (rw [hy774]; exact H) | exact H
        have Ny774 := Aside0.mk hy774
        clear hy774
        have H' := Aside0.mk H
        clear H
        go_enter Try.func86, Try.ntmps86
        try go_wp2_with (first | ((with_reducible refine gate_dst (N := 2) rfl ?_); refine box_event ?hg (N := 2) ?hd (cs := #[.int .i64 a0_0, .slice A0_1 l0_1.length c0_1]) (t := 29) ?hr ?_; (case hd => rfl); (case hg => rfl); (case hr => first | (go_simp; done) | (go_simp; rfl)); intro gb768 hg w10 hbox hb; have n0_ := Aside0.mk (below_step (ne_ HB.out) hb); have n1_ := Aside0.mk (hbox); have n2_ := Aside0.mk ((by rw [hg]; exact (below_size (ne_ HB.out)) : w.heap.size ≤ gb768)); have n3_ := Aside0.mk ((by rw [hg]; exact (below_size (ne_ HB.out)) : w.heap.size ≤ gb768)); clear HB; have HB := n0_; have BK768 := n1_; have GW768 := n2_; have GE768 := n3_; clear n0_ n1_ n2_ n3_; clear hb hbox hg) | ((with_reducible refine gate_dst (N := 11) rfl ?_); refine Go.Proofs.YtpjmkghmjpbldaaX.Kd.R_make0 (Kd.int .i64) _ 3 rfl (N := 11) rfl 41 _ _ rfl ji3 rfl rfl Try.underlying41 (.int .i64 0) 8 info3 (by omega) (ok := fun _ => True) trivial (of_decide_eq_true nx_) (Nat.le_trans (Nat.mul_le_mul_right _ (of_decide_eq_true nx_ : (ji3 : Int).toNat ≤ 35184372088832)) (by omega)) (Below.refl _ _) (Nat.le_refl _) ?_; intro v770 w11 ho12 hb hg_ hnew_; clear hg_ hnew_; (first | rw [← Ny769.out] at ho12 | (simp only [Int.reduceToNat] at ho12; rw [← Ny769.out] at ho12)); have n0_ := Aside0.mk (Kd.R_lower ho12 (below_size (ne_ HB.out))); have n1_ := Aside0.mk (blk_below (g := gb768) (o := .cells #[.int .i64 a0_0, .slice A0_1 l0_1.length c0_1] 29 (0, 0)) (nb_ BK768.out) hb); have n2_ := Aside0.mk (below_step (ne_ HB.out) hb); clear BK768; clear HB; have HO771 := n0_; have BK768 := n1_; have HB := n2_; clear n0_ n1_ n2_; clear hb ho12))
        have n0_ := Aside0.mk (Kd.R_drew HO771.out)
        have n1_ := Aside0.mk (blk_drew BK768.out)
        have n2_ := Aside0.mk (below_drew1 HB.out)
        clear HO771
        clear BK768
        clear HB
        have HO771 := n0_
        have BK768 := n1_
        have HB := n2_
        clear n0_ n1_ n2_
        have p772 : 0 ≤ (0 : Int) := (by omega)
        have q772 : 0 < (l1.length : Int) := of_decide_eq_true nx_
        obtain ⟨ad772, e772, hx772_0⟩ := Kd.at_int HR1.out 0 p772 q772
        have hw772_0 := hx772_0
        (try rw [show ((0 : Int)).toNat = 0 from rfl] at hw772_0)
        (try rw [show 0 * 1 = 0 from rfl] at hw772_0)
        (try rw [Addr.add_zero'] at hw772_0)
        cases e772
        have qi772 : (0 < l1.length) = True := eq_true (by omega)
        (try rw [show ((0 : Int)).toNat = 0 from rfl] at hx772_0)
        (try rw [Addr.add_zero'] at hx772_0)
        replace hx772_0 := (HB.out.cell (World.block_lt_of_cell? w _ hx772_0)).trans hx772_0
        replace p772 := eq_true p772
        replace q772 := eq_true q772
        have p773 : 0 ≤ ((rd l1 0) : Int) := of_decide_eq_true nx_
        have q773 : (rd l1 0) < (l0_1.length : Int) := of_decide_eq_true nx_
        obtain ⟨ad773, e773, hx773_0, hx773_1, hx773_2, hx773_3, hx773_4⟩ := at_T37 HR0_1.out (rd l1 0) p773 q773
        have hw773_4 := hx773_4
        have hw773_3 := hx773_3
        have hw773_2 := hx773_2
        have hw773_1 := hx773_1
        have hw773_0 := hx773_0
        cases e773
        replace hx773_0 := (HB.out.cell (World.block_lt_of_cell? w _ hx773_0)).trans hx773_0
        replace hx773_1 := (HB.out.cell (World.block_lt_of_cell? w _ hx773_1)).trans hx773_1
        replace hx773_2 := (HB.out.cell (World.block_lt_of_cell? w _ hx773_2)).trans hx773_2
        replace hx773_3 := (HB.out.cell (World.block_lt_of_cell? w _ hx773_3)).trans hx773_3
        replace hx773_4 := (HB.out.cell (World.block_lt_of_cell? w _ hx773_4)).trans hx773_4
        replace p773 := eq_true p773
        replace q773 := eq_true q773
        refine start_ (n := 12) (S := fun w' => w'.cell? ⟨gb768, 0, none⟩ = some (.int .i64 a0_0) ∧ w'.cell? ⟨gb768, 1, none⟩ = some (.slice (some ad773) l0_1.length c0_1) ∧ w'.cell? ad772 = some (.int .i64 (rd l1 0)) ∧ w'.cell? (ad773.add (((rd l1 0)).toNat * 5)) = some (.int .i64 ((rd_T37 l0_1 (rd l1 0)).f0)) ∧ w'.cell? ⟨(ad773.add (((rd l1 0)).toNat * 5)).block, (ad773.add (((rd l1 0)).toNat * 5)).off + 1, none⟩ = some (.int .i64 ((rd_T37 l0_1 (rd l1 0)).f1)) ∧ w'.cell? ⟨(ad773.add (((rd l1 0)).toNat * 5)).block, (ad773.add (((rd l1 0)).toNat * 5)).off + 2, none⟩ = some (.int .i64 ((rd_T37 l0_1 (rd l1 0)).f2)) ∧ w'.cell? ⟨(ad773.add (((rd l1 0)).toNat * 5)).block, (ad773.add (((rd l1 0)).toNat * 5)).off + 3, none⟩ = some (.int .i64 ((rd_T37 l0_1 (rd l1 0)).f3)) ∧ w'.cell? ⟨(ad773.add (((rd l1 0)).toNat * 5)).block, (ad773.add (((rd l1 0)).toNat * 5)).off + 4, none⟩ = some (.int .i64 ((rd_T37 l0_1 (rd l1 0)).f4))) (ds := []) #[false, false, false, false, false, false, false, false, false, false, false, false] (by kernel_rfl) rfl rfl ⟨(blk_cell BK768.out 0).trans rfl, (blk_cell BK768.out 1).trans rfl, ((HB.out.cell (World.block_lt_of_cell? w _ hw772_0)).trans hw772_0), ((HB.out.cell (World.block_lt_of_cell? w _ hw773_0)).trans hw773_0), ((HB.out.cell (World.block_lt_of_cell? w _ hw773_1)).trans hw773_1), ((HB.out.cell (World.block_lt_of_cell? w _ hw773_2)).trans hw773_2), ((HB.out.cell (World.block_lt_of_cell? w _ hw773_3)).trans hw773_3), ((HB.out.cell (World.block_lt_of_cell? w _ hw773_4)).trans hw773_4)⟩ (fun hHeld => ?_); refine with_tabW impl_Net_along.tab2 impl_Net_along.bits2 (fun HT_ HW_ => ?_)
        generalize w11.drew = w13 at HO771 BK768 HB hx772_0 hx773_0 hx773_1 hx773_2 hx773_3 hx773_4 hHeld ⊢
        refine pu_ 0 12 #[true, false, false, false, false, false, false, false, false, false, false, false] HT_.out ?_
        refine pu_ 1 13 #[true, true, false, false, false, false, false, false, false, false, false, false] HT_.out ?_
        refine pu_ 3 15 #[true, true, false, true, false, false, false, false, false, false, false, false] HT_.out ?_
        refine pu_ 4 16 #[true, true, false, true, true, false, false, false, false, false, false, false] HT_.out ?_
        refine tk_ 2 14 #[true, true, true, true, true, false, false, false, false, false, false, false] HT_.out HW_.out hHeld ?_
        refine tk_ 5 17 #[true, true, true, true, true, true, false, false, false, false, false, false] HT_.out HW_.out hHeld ?_
        refine pu_ 6 18 #[true, true, true, true, true, true, true, false, false, false, false, false] HT_.out ?_
        refine pu_ 7 19 #[true, true, true, true, true, true, true, true, false, false, false, false] HT_.out ?_
        refine tk_ 8 20 #[true, true, true, true, true, true, true, true, true, false, false, false] HT_.out HW_.out hHeld ?_
        refine one_ (i := 9) (N := some 21) #[true, true, true, true, true, true, true, true, true, true, false, false] rfl rfl (one_of HT_.out (by kernel_rfl)) (by decide) (fun K hK => ?_)
        refine value_ (w1 := ?_) (v := ?_) (by rfl) rfl ?_ ?_
        rotate_left 2
        ·go_simp
         constructor
         ·rfl
         ·rfl
        refine hK.out _ _ ⟨(blk_cell (blk_alloc BK768.out _) 0).trans rfl, (blk_cell (blk_alloc BK768.out _) 1).trans rfl, (World.cell?_alloc_lt _ _ _ (World.block_lt_of_cell? _ _ (((HB.out.cell (World.block_lt_of_cell? w _ hw772_0)).trans hw772_0)))).trans (((HB.out.cell (World.block_lt_of_cell? w _ hw772_0)).trans hw772_0)), (World.cell?_alloc_lt _ _ _ (World.block_lt_of_cell? _ _ (((HB.out.cell (World.block_lt_of_cell? w _ hw773_0)).trans hw773_0)))).trans (((HB.out.cell (World.block_lt_of_cell? w _ hw773_0)).trans hw773_0)), (World.cell?_alloc_lt _ _ _ (World.block_lt_of_cell? _ _ (((HB.out.cell (World.block_lt_of_cell? w _ hw773_1)).trans hw773_1)))).trans (((HB.out.cell (World.block_lt_of_cell? w _ hw773_1)).trans hw773_1)), (World.cell?_alloc_lt _ _ _ (World.block_lt_of_cell? _ _ (((HB.out.cell (World.block_lt_of_cell? w _ hw773_2)).trans hw773_2)))).trans (((HB.out.cell (World.block_lt_of_cell? w _ hw773_2)).trans hw773_2)), (World.cell?_alloc_lt _ _ _ (World.block_lt_of_cell? _ _ (((HB.out.cell (World.block_lt_of_cell? w _ hw773_3)).trans hw773_3)))).trans (((HB.out.cell (World.block_lt_of_cell? w _ hw773_3)).trans hw773_3)), (World.cell?_alloc_lt _ _ _ (World.block_lt_of_cell? _ _ (((HB.out.cell (World.block_lt_of_cell? w _ hw773_4)).trans hw773_4)))).trans (((HB.out.cell (World.block_lt_of_cell? w _ hw773_4)).trans hw773_4))⟩ (fun hHeld => ?_)
        clear hK K
        refine norm_ (a' := ?_) ?_ ?_
        rotate_left
        ·show Act.put _ (some 21) _ = _
         simp only [Act.put, List.setIfInBounds_toArray, List.set_cons_zero, List.set_cons_succ, i64_w, i32_w]
         rfl
        refine one_ (i := 10) (N := some 22) #[true, true, true, true, true, true, true, true, true, true, true, false] rfl rfl (one_of HT_.out (by kernel_rfl)) (by decide) (fun K hK => ?_)
        refine Kd.R_append_step (Kd.int .i64) (w0 := w) w.heap.size (by rfl) (.tmp 12) (.tmp 21) 41 3 (.int .i64 0) 8 rfl Try.underlying41 info3 rfl (by decide) (by omega) v770 y769 ((rd_T37 l0_1 (rd l1 0)).f0) [.int .i64 ((rd_T37 l0_1 (rd l1 0)).f0)] (fun _ => True) (fun _ => False) rfl rfl ?aP (fun _ hk => hk.elim) ?aF ?aO ?aB ?aS ?aL ?_
        (case aP => exact rfl)
        (case aB => exact (ne_ HB.out))
        (case aF => exact (fun _ _ => trivial))
        (case aO => exact (nr_ HO771.out))
        (case aS => exact (below_size (ne_ HB.out)))
        (case aL => have := LMc9.out; omega)
        intro v775 w14 ho hb hg hat
        rw [← Ny774.out] at ho
        have n0_ := Aside0.mk (blk_grown (g := gb768) (o := .cells #[.int .i64 a0_0, .slice (some ad773) l0_1.length c0_1] 29 (0, 0)) (nb_ BK768.out) hg (Kd.R_ne HO771.out BK768.out (by decide)))
        have n1_ := Aside0.mk (hb)
        have n2_ := Aside0.mk (ho)
        clear BK768
        clear HB
        clear HO771
        have BK768 := n0_
        have HB := n1_
        have HO776 := n2_
        clear n0_ n1_ n2_
        clear ho hb hg hat
        refine hK.out _ _ ⟨(blk_cell BK768.out 0).trans rfl, (blk_cell BK768.out 1).trans rfl, ((HB.out.cell (World.block_lt_of_cell? w _ hw772_0)).trans hw772_0), ((HB.out.cell (World.block_lt_of_cell? w _ hw773_0)).trans hw773_0), ((HB.out.cell (World.block_lt_of_cell? w _ hw773_1)).trans hw773_1), ((HB.out.cell (World.block_lt_of_cell? w _ hw773_2)).trans hw773_2), ((HB.out.cell (World.block_lt_of_cell? w _ hw773_3)).trans hw773_3), ((HB.out.cell (World.block_lt_of_cell? w _ hw773_4)).trans hw773_4)⟩ (fun hHeld => ?_)
        clear hK K
        refine norm_ (a' := ?_) ?_ ?_
        rotate_left
        ·show Act.put _ (some 22) _ = _
         simp only [Act.put, List.setIfInBounds_toArray, List.set_cons_zero, List.set_cons_succ, i64_w, i32_w]
         rfl
        refine pu_ 11 5 #[true, true, true, true, true, true, true, true, true, true, true, true] HT_.out ?_
        refine done_ (done_of HT_.out (by kernel_rfl)) ?_
        try go_wp2
        go_loopg [5, 25] k (fun kq v5 v25 w' => ∃ (x5_1 : List Int) (x25_1 : Int), v25 = .int .i64 x25_1 ∧ Aside0 (impl_Net_along.l0 kq x5_1 l1 (l1.length : Int) x25_1 a0_0 l0_1 = some r) ∧ Aside0 (kq ≤ k) ∧ Aside0 (Kd.R (Kd.int .i64) 3 w' w.heap.size (fun _ => True) v5 x5_1) ∧ Aside0 (w'.heap[gb768]? = some (.cells #[.int .i64 a0_0, (.slice (some ad773) l0_1.length c0_1)] 29 (0, 0))) ∧ Aside0 (Below w.heap.size w w'))
        case atStart => exact ⟨(y774), (0), ns_, H', ⟨Nat.le_refl _⟩, ⟨by (with_reducible repeat (first | apply Kd.R_alloc | apply Kd.R_drewN | apply Kd.R_drew)); exact HO776.out⟩, ⟨by (with_reducible repeat (first | refine blk_drewN ?_ _ | refine blk_drew ?_ | refine blk_alloc ?_ _)); exact BK768.out⟩, ⟨by repeat (first | (with_reducible first | exact HB.out | apply below_alloc | apply pw_below_drewN | apply below_drew1 | refine below_set ?_ GE768.out) | exact HB.out)⟩⟩
        case round =>
         clear H'
         try clear c1
         try clear p2
         try clear c4
         try clear c4b0
         try clear c4b1
         try clear c5
         try clear c5b0
         try clear c5b1
         try clear c6
         try clear c6b0
         try clear c6b1
         try clear p6
         try clear c7
         try clear c7b0
         try clear p7
         try clear q7
         try clear hx7
         try clear qi7
         try clear c8
         try clear c8b0
         try clear c9
         try clear hx772_0
         try clear hx773_0
         try clear hx773_1
         try clear hx773_2
         try clear hx773_3
         try clear hx773_4
         try clear p772
         try clear p773
         try clear q772
         try clear q773
         obtain ⟨x5_1, x25_1, rfl, HA, HK1, HO_5, BK768, HB⟩ := hrel
         cases gk with
         | zero => exact absurd HA.out (by simp [impl_Net_along.l0])
         | succ k1 =>
          have H := HA.out
          clear HA
          simp only [impl_Net_along.l0] at H
          by_cases c15 : x25_1 < (l1.length : Int)
          ·rw [if_pos c15] at H
           have c15b0 : decide (x25_1 < (l1.length : Int)) = true := decide_eq_true c15
           clear c15
           by_cases c16 : 0 ≤ x25_1
           ·rw [if_pos c16] at H
            have c16b0 : decide (0 ≤ x25_1) = true := decide_eq_true c16
            clear c16
            by_cases c17 : x25_1 < (l1.length : Int)
            ·rw [if_pos c17] at H
             have c17b0 : decide (x25_1 < (l1.length : Int)) = true := decide_eq_true c17
             clear c17
             by_cases c18 : 0 ≤ (rd l1 x25_1)
             ·rw [if_pos c18] at H
              have c18b0 : decide (0 ≤ (rd l1 x25_1)) = true := decide_eq_true c18
              clear c18
              by_cases c19 : (rd l1 x25_1) < (l0_1.length : Int)
              ·rw [if_pos c19] at H
               have c19b0 : decide ((rd l1 x25_1) < (l0_1.length : Int)) = true := decide_eq_true c19
               clear c19
               by_cases c20 : x5_1.length < 17592186044416
               ·rw [if_pos c20] at H
                have LMc20 := Aside0.mk c20
                clear c20
                obtain ⟨y779, hy779⟩ : ∃ y_ : List Int, y_ = (x5_1 ++ [(rd_T37 l0_1 (rd l1 x25_1)).f1]) := ⟨_, rfl⟩
                replace H : (impl_Net_along.l0 k1 y779 l1 (l1.length : Int) (wrap64 (x25_1 + 1)) a0_0 l0_1) = some r := by first | (rw [hy779]; with_reducible exact H) | (have H2_ := (Option.bind_some _ _).symm.trans H; rw [hy779]; with_reducible exact H2_) | (have H2_ := (Option.bind_some _ _).symm.trans H; with_reducible exact H2_) | with_reducible exact H | (rw [hy779]; exact H) | exact H
                have Ny779 := Aside0.mk hy779
                clear hy779
                have H' := Aside0.mk H
                clear H
                have p777 : 0 ≤ (x25_1 : Int) := of_decide_eq_true nx_
                have q777 : x25_1 < (l1.length : Int) := of_decide_eq_true nx_
                obtain ⟨ad777, e777, hx777_0⟩ := Kd.at_int HR1.out x25_1 p777 q777
                obtain rfl : ad772 = ad777 := (by injection e777)
                replace hx777_0 := (HB.out.cell (World.block_lt_of_cell? w _ hx777_0)).trans hx777_0
                replace p777 := eq_true p777
                replace q777 := eq_true q777
                have hcz21_0 : wr.cell? ⟨gb768, 0, none⟩ = some (.int .i64 a0_0) := (blk_cell BK768.out 0).trans rfl
                have hcz21_1 : wr.cell? ⟨gb768, 1, none⟩ = some (.slice (some ad773) l0_1.length c0_1) := (blk_cell BK768.out 1).trans rfl
                have hfz21_0 := blk_frozen BK768.out 0
                have hfz21_1 := blk_frozen BK768.out 1
                have p778 : 0 ≤ ((rd l1 x25_1) : Int) := of_decide_eq_true nx_
                have q778 : (rd l1 x25_1) < (l0_1.length : Int) := of_decide_eq_true nx_
                obtain ⟨ad778, e778, hx778_0, hx778_1, hx778_2, hx778_3, hx778_4⟩ := at_T37 HR0_1.out (rd l1 x25_1) p778 q778
                obtain rfl : ad773 = ad778 := (by injection e778)
                replace hx778_0 := (HB.out.cell (World.block_lt_of_cell? w _ hx778_0)).trans hx778_0
                replace hx778_1 := (HB.out.cell (World.block_lt_of_cell? w _ hx778_1)).trans hx778_1
                replace hx778_2 := (HB.out.cell (World.block_lt_of_cell? w _ hx778_2)).trans hx778_2
                replace hx778_3 := (HB.out.cell (World.block_lt_of_cell? w _ hx778_3)).trans hx778_3
                replace hx778_4 := (HB.out.cell (World.block_lt_of_cell? w _ hx778_4)).trans hx778_4
                replace p778 := eq_true p778
                replace q778 := eq_true q778
                go_wp2_with (first | ((with_reducible refine gate_builtin (b := .append) (xs := #[.tmp 29, .tmp 36]) rfl ?_); at_builtin; refine Kd.R_append (Kd.int .i64) (w0 := w) w.heap.size rfl (.tmp 29) (.tmp 36) 41 3 (.int .i64 0) 8 rfl Try.underlying41 info3 rfl (by decide) (by omega) u5 x5_1 ((rd_T37 l0_1 (rd l1 x25_1)).f1) [.int .i64 ((rd_T37 l0_1 (rd l1 x25_1)).f1)] (fun _ => True) (fun _ => False) rfl rfl ?aP (fun _ hk => hk.elim) ?aF ?aO ?aB ?aS ?aL ?_; (case aP => exact rfl); (case aB => exact (ne_ HB.out)); (case aF => exact (fun _ _ => trivial)); (case aO => exact (nr_ HO_5.out)); (case aS => exact (below_size (ne_ HB.out))); (case aL => have := LMc20.out; omega); intro v780 w22 ho hb hg hat; rw [← Ny779.out] at ho; have n0_ := Aside0.mk (blk_grown (g := gb768) (o := .cells #[.int .i64 a0_0, .slice (some ad773) l0_1.length c0_1] 29 (0, 0)) (nb_ BK768.out) hg (Kd.R_ne HO_5.out BK768.out (by decide))); have n1_ := Aside0.mk (hb); have n2_ := Aside0.mk (ho); clear BK768; clear HB; clear HO_5; have BK768 := n0_; have HB := n1_; have HO781 := n2_; clear n0_ n1_ n2_; clear ho hb hg hat))
                go_roundg k1
                case measure => have := HK1.out; omega
                case rel => exact ⟨(y779), (wrap64 (x25_1 + 1)), ns_, H', ⟨by have := HK1.out; omega⟩, ⟨by (with_reducible repeat (first | apply Kd.R_alloc | apply Kd.R_drewN | apply Kd.R_drew)); exact HO781.out⟩, ⟨by (with_reducible repeat (first | refine blk_drewN ?_ _ | refine blk_drew ?_ | refine blk_alloc ?_ _)); exact BK768.out⟩, ⟨by repeat (first | (with_reducible first | exact HB.out | apply below_alloc | apply pw_below_drewN | apply below_drew1 | refine below_set ?_ GE768.out) | exact HB.out)⟩⟩
               ·rw [if_neg c20] at H
                exact absurd H (by simp)
              ·rw [if_neg c19] at H
               exact absurd H (by simp)
             ·rw [if_neg c18] at H
              exact absurd H (by simp)
            ·rw [if_neg c17] at H
             exact absurd H (by simp)
           ·rw [if_neg c16] at H
            exact absurd H (by simp)
          ·rw [if_neg c15] at H
           have c15b0 : decide (x25_1 < (l1.length : Int)) = false := decide_eq_false c15
           clear c15
           obtain rfl := Option.some.inj H
           go_wp2
           go_ret
           exact ⟨_, by first | rfl | (simp [errW_none, errW_some] <;> rfl) | (simp only [← hji3]; first | rfl | (simp [errW_none, errW_some] <;> rfl)) | (simp [*, errW_none, errW_some] <;> rfl), by (with_reducible repeat (first | apply Kd.R_alloc | apply Kd.R_drewN | apply Kd.R_drew)); exact HO_5.out, by repeat (first | (with_reducible first | exact HB.out | apply below_alloc | apply pw_below_drewN | apply below_drew1 | refine below_set ?_ GE768.out) | exact HB.out)⟩
       ·rw [if_neg c9] at H
        exact absurd H (by simp)
      ·rw [if_neg c8] at H
       exact absurd H (by simp)
     ·rw [if_neg c7] at H
      exact absurd H (by simp)
    ·rw [if_neg c6] at H
     exact absurd H (by simp)
   ·rw [if_neg c5] at H
    exact absurd H (by simp)
  ·rw [if_neg c4] at H
   exact absurd H (by simp)

end Go.Proofs.Ytpjmkghmjpbldaa.Print
