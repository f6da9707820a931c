-- Made by this session's own program (wip/patch_print.py, over the kit's print). Lean checks it.
import Derived.Test.YtpjmkghmjpbldaaPrint0
namespace Go.Proofs.Ytpjmkghmjpbldaa.Print
open Go.RowKit Go.Proofs.YtpjmkghmjpbldaaW.PrintWords Go.Proofs.YtpjmkghmjpbldaaW.PrintLast Go.Proofs.YtpjmkghmjpbldaaW.PrintMore Go.Proofs.YtpjmkghmjpbldaaX
attribute [local go_sem] max2_int min2_int max_two min_two max_three min_three max_four min_four   -- for this text's walks alone
set_option linter.unusedVariables false
set_option linter.unusedSimpArgs false

/-! ### spec_l2Nodes: function 87 -/
def spec_l2Nodes.l0 : Nat → List Int → List Int → Int → Int → List (S37) → Option (List Int)
  | 0, _, _, _, _, _ => none
  | k + 1, x1, x7, x8, x799000, x799001 => if x8 < (x1.length : Int) then (if 0 ≤ x8 then (if 0 ≤ (rd x1 x8) then (if (rd x1 x8) < (x799001.length : Int) then (if x7.length < 17592186044416 then (spec_l2Nodes.l0 k x1 (x7 ++ [(rd_T37 x799001 (rd x1 x8)).f1]) (wrap64 (x8 + 1)) x799000 x799001) else (none)) else (none)) else (none)) else (none)) else (some x7)
def spec_l2Nodes.f (k : Nat) (a0_0 : Int) (l0_1 : List (S37)) (l1 : List Int) (a2 : Int) : Option (List Int) := spec_l2Nodes.l0 k l1 (([a2] : List Int)) 0 a0_0 l0_1
theorem spec_l2Nodes.mono_l : ∀ k, (∀ y0 y1 y2 y3 y4, LeO (spec_l2Nodes.l0 k y0 y1 y2 y3 y4) (spec_l2Nodes.l0 (k + 1) y0 y1 y2 y3 y4))
  | 0 => fun _ _ _ _ _ r h => by simp [spec_l2Nodes.l0] at h
  | k + 1 => by
    have ih0 := spec_l2Nodes.mono_l k
    · intro y0 y1 y2 y3 y4
      unfold spec_l2Nodes.l0
      repeat' first | (with_reducible first | exact ih0 _ _ _ _ _ | exact LeO.refl _ | exact LeO.none _ | refine LeO.ite ?_ ?_ | refine LeO.bind ?_ (fun _ => ?_)) | exact ih0 _ _ _ _ _ | exact LeO.none _ | refine LeO.ite ?_ ?_ | refine LeO.bind ?_ (fun _ => ?_)
theorem spec_l2Nodes.mono : ∀ a0 a1 a2 a3 k, LeO (spec_l2Nodes.f k a0 a1 a2 a3) (spec_l2Nodes.f (k + 1) a0 a1 a2 a3) := by
  intro a0 a1 a2 a3 k
  have ih0 := spec_l2Nodes.mono_l k
  unfold spec_l2Nodes.f
  repeat' first | (with_reducible first | exact ih0 _ _ _ _ _ | exact LeO.refl _ | exact LeO.none _ | refine LeO.ite ?_ ?_ | refine LeO.bind ?_ (fun _ => ?_)) | exact ih0 _ _ _ _ _ | exact LeO.none _ | refine LeO.ite ?_ ?_ | refine LeO.bind ?_ (fun _ => ?_)
def spec_l2Nodes.T5 : Bool × List (List Nat × List Nat) := (true, [([], []), ([], []), ([1], [1]), ([], []), ([], []), ([3, 4], [3, 4]), ([5], [5]), ([2, 6], [2, 6]), ([7], [7]), ([8], [8]), ([9], [9]), ([0, 10], [0, 10]), ([11, 11, 0, 1, 2, 3, 4, 5, 6, 7, 8, 9, 10, 11], [0, 11])])
def spec_l2Nodes.B5 : List Nat := [0, 0, 2, 0, 0, 24, 56, 126, 254, 510, 1022, 2047, 4095]
theorem spec_l2Nodes.tab5 : rtab .any (opsOf Try.f87 5) = spec_l2Nodes.T5 := by kernel_rfl
theorem spec_l2Nodes.bits5 : waitsOk spec_l2Nodes.T5.2 spec_l2Nodes.B5 = true := by kernel_rfl
set_option maxHeartbeats 200000000 in
set_option maxRecDepth 100000 in
theorem spec_l2Nodes.calls (k : Nat) (a0_0 : Int) (A0_1 : Option Addr) (c0_1 : Nat) (l0_1 : List (S37)) (A1 : Option Addr) (c1 : Nat) (l1 : List Int) (a2 : Int) (r : List Int) (w : World) (hr0_1 : Kd.C k37 w A0_1 l0_1.length l0_1) (hc0_1 : l0_1.length ≤ c0_1) (hr1 : Kd.C (Kd.int .i64) w A1 l1.length l1) (hc1 : l1.length ≤ c1) (h : spec_l2Nodes.f k a0_0 l0_1 l1 a2 = some r) :
    Calls Try.prog 87 #[.agg #[.int .i64 a0_0, .slice A0_1 l0_1.length c0_1], .slice A1 l1.length c1, .int .i64 a2] w fun e w' => ∃ v0_ : Value, e = .returned (v0_) ∧ Kd.R (Kd.int .i64) 3 w' w.heap.size (fun _ => True) v0_ r ∧ Below w.heap.size w w' := by
  have hu29 := Try.underlying29
  have HR0_1 := Aside0.mk hr0_1
  have HC0_1 := Aside0.mk hc0_1
  clear hr0_1 hc0_1
  have HR1 := Aside0.mk hr1
  have HC1 := Aside0.mk hc1
  clear hr1 hc1
  have HB := Aside0.mk (Below.refl w.heap.size w)
  have H : (spec_l2Nodes.l0 k l1 (([a2] : List Int)) 0 a0_0 l0_1) = some r := h
  clear h
  obtain ⟨y799, hy799⟩ : ∃ y_ : List Int, y_ = (([a2] : List Int)) := ⟨_, rfl⟩
  replace H : (spec_l2Nodes.l0 k l1 y799 0 a0_0 l0_1) = some r := by first | (rw [hy799]; with_reducible exact H) | (have H2_ := (Option.bind_some _ _).symm.trans H; rw [hy799]; with_reducible exact H2_) | (have H2_ := (Option.bind_some _ _).symm.trans H; with_reducible exact H2_) | with_reducible exact H | (rw [hy799]; exact H) | exact H
  have Ny799 := Aside0.mk hy799
  clear hy799
  have H' := Aside0.mk H
  clear H
  go_enter Try.func87, Try.ntmps87
  go_wp2_with (first | ((with_reducible refine gate_dst (N := 3) rfl ?_); refine bx_ 3 #[.int .i64 a0_0, .slice A0_1 l0_1.length c0_1] 29 ?_; intro gb798 hg w4 hbox hb; have BK798 := Aside0.mk (hbox); have GW798 := Aside0.mk (zs_ hg (ne_ HB.out)); have GE798 := Aside0.mk (zs_ hg (ne_ HB.out)); replace HB := kB_ HB hb; clear hb hbox hg) | ((with_reducible refine gate_dst (N := 10) rfl ?_); refine li_ 10 3 [a2] [.int .i64 a2] ?_; intro v800 w5 ho6 hb hg_ hnew_; clear hg_ hnew_; (first | rw [← Ny799.out] at ho6 | (simp only [Int.reduceToNat] at ho6; rw [← Ny799.out] at ho6)); have HO801 := Aside0.mk (Kd.R_lower ho6 (below_size (ne_ HB.out))); replace BK798 := kb_ BK798 hb; replace HB := kB_ HB hb; clear hb ho6))
  go_loopg [7, 8] k (fun kq v7 v8 w' => ∃ (x7_1 : List Int) (x8_1 : Int), v8 = .int .i64 x8_1 ∧ Aside0 (spec_l2Nodes.l0 kq l1 x7_1 x8_1 a0_0 l0_1 = some r) ∧ Aside0 (kq ≤ k) ∧ Aside0 (Kd.R (Kd.int .i64) 3 w' w.heap.size (fun _ => True) v7 x7_1) ∧ Aside0 (w'.heap[gb798]? = some (.cells #[.int .i64 a0_0, (.slice A0_1 l0_1.length c0_1)] 29 (0, 0))) ∧ Aside0 (Below w.heap.size w w'))
  case atStart => exact ⟨(y799), (0), ns_, H', ⟨Nat.le_refl _⟩, ⟨nr_ HO801.out⟩, ⟨nb_ BK798.out⟩, ⟨ne_ HB.out⟩⟩
  case round =>
   clear H'
   try clear c1
   obtain ⟨x7_1, x8_1, rfl, HA, HK1, HO_7, BK798, HB⟩ := hrel
   cases gk with
   | zero => exact absurd HA.out (by simp [spec_l2Nodes.l0])
   | succ k1 =>
    have H := HA.out
    clear HA
    simp only [spec_l2Nodes.l0] at H
    by_cases c7 : x8_1 < (l1.length : Int)
    rotate_left
    ·rw [if_neg c7] at H
     have c7b0 : decide (x8_1 < (l1.length : Int)) = false := decide_eq_false c7
     clear c7
     obtain rfl := Option.some.inj H
     go_wp2
     go_ret
     exact ⟨_, nw_, nr_ HO_7.out, ne_ HB.out⟩

    rw [if_pos c7] at H
    have c7b0 : decide (x8_1 < (l1.length : Int)) = true := decide_eq_true c7
    clear c7
    by_cases c8 : 0 ≤ x8_1
    rotate_left
    ·rw [if_neg c8] at H
     exact absurd H (by simp)
    rw [if_pos c8] at H
    have c8b0 : decide (0 ≤ x8_1) = true := decide_eq_true c8
    clear c8
    by_cases c9 : 0 ≤ (rd l1 x8_1)
    rotate_left
    ·rw [if_neg c9] at H
     exact absurd H (by simp)
    rw [if_pos c9] at H
    have c9b0 : decide (0 ≤ (rd l1 x8_1)) = true := decide_eq_true c9
    clear c9
    by_cases c10 : (rd l1 x8_1) < (l0_1.length : Int)
    rotate_left
    ·rw [if_neg c10] at H
     exact absurd H (by simp)
    rw [if_pos c10] at H
    have c10b0 : decide ((rd l1 x8_1) < (l0_1.length : Int)) = true := decide_eq_true c10
    clear c10
    by_cases c11 : x7_1.length < 17592186044416
    rotate_left
    ·rw [if_neg c11] at H
     exact absurd H (by simp)
    rw [if_pos c11] at H
    have LMc11 := Aside0.mk c11
    clear c11
    obtain ⟨y804, hy804⟩ : ∃ y_ : List Int, y_ = (x7_1 ++ [(rd_T37 l0_1 (rd l1 x8_1)).f1]) := ⟨_, rfl⟩
    replace H : (spec_l2Nodes.l0 k1 l1 y804 (wrap64 (x8_1 + 1)) a0_0 l0_1) = some r := by first | (rw [hy804]; with_reducible exact H) | (have H2_ := (Option.bind_some _ _).symm.trans H; rw [hy804]; with_reducible exact H2_) | (have H2_ := (Option.bind_some _ _).symm.trans H; with_reducible exact H2_) | with_reducible exact H | (rw [hy804]; exact H) | exact H
    have Ny804 := Aside0.mk hy804
    clear hy804
    have H' := Aside0.mk H
    clear H
    try go_wp2
    replace HO_7 := Aside0.mk (Kd.R_drew HO_7.out)
    replace BK798 := Aside0.mk (blk_drew BK798.out)
    replace HB := Aside0.mk (below_drew1 HB.out)
    have p802 : 0 ≤ (x8_1 : Int) := of_decide_eq_true nx_
    have q802 : x8_1 < (l1.length : Int) := of_decide_eq_true nx_
    obtain ⟨ad802, e802, hx802_0⟩ := Kd.at_int HR1.out x8_1 p802 q802
    have hw802_0 := hx802_0
    cases e802
    replace hx802_0 := hb_ HB.out hx802_0
    replace p802 := eq_true p802
    replace q802 := eq_true q802
    have p803 : 0 ≤ ((rd l1 x8_1) : Int) := of_decide_eq_true nx_
    have q803 : (rd l1 x8_1) < (l0_1.length : Int) := of_decide_eq_true nx_
    obtain ⟨ad803, e803, hx803_0, hx803_1, hx803_2, hx803_3, hx803_4⟩ := at_T37 HR0_1.out (rd l1 x8_1) p803 q803
    have hw803_4 := hx803_4
    have hw803_3 := hx803_3
    have hw803_2 := hx803_2
    have hw803_1 := hx803_1
    have hw803_0 := hx803_0
    cases e803
    replace hx803_0 := hb_ HB.out hx803_0
    replace hx803_1 := hb_ HB.out hx803_1
    replace hx803_2 := hb_ HB.out hx803_2
    replace hx803_3 := hb_ HB.out hx803_3
    replace hx803_4 := hb_ HB.out hx803_4
    replace p803 := eq_true p803
    replace q803 := eq_true q803
    refine start_ (n := 13) (S := fun w' => w'.cell? ⟨gb798, 0, none⟩ = some (.int .i64 a0_0) ∧ w'.cell? ⟨gb798, 1, none⟩ = some (.slice (some ad803) l0_1.length c0_1) ∧ w'.cell? (ad802.add (x8_1).toNat) = some (.int .i64 (rd l1 x8_1)) ∧ w'.cell? (ad803.add (((rd l1 x8_1)).toNat * 5)) = some (.int .i64 ((rd_T37 l0_1 (rd l1 x8_1)).f0)) ∧ w'.cell? ⟨(ad803.add (((rd l1 x8_1)).toNat * 5)).block, (ad803.add (((rd l1 x8_1)).toNat * 5)).off + 1, none⟩ = some (.int .i64 ((rd_T37 l0_1 (rd l1 x8_1)).f1)) ∧ w'.cell? ⟨(ad803.add (((rd l1 x8_1)).toNat * 5)).block, (ad803.add (((rd l1 x8_1)).toNat * 5)).off + 2, none⟩ = some (.int .i64 ((rd_T37 l0_1 (rd l1 x8_1)).f2)) ∧ w'.cell? ⟨(ad803.add (((rd l1 x8_1)).toNat * 5)).block, (ad803.add (((rd l1 x8_1)).toNat * 5)).off + 3, none⟩ = some (.int .i64 ((rd_T37 l0_1 (rd l1 x8_1)).f3)) ∧ w'.cell? ⟨(ad803.add (((rd l1 x8_1)).toNat * 5)).block, (ad803.add (((rd l1 x8_1)).toNat * 5)).off + 4, none⟩ = some (.int .i64 ((rd_T37 l0_1 (rd l1 x8_1)).f4))) (ds := []) (bm_ 13 0) (by kernel_rfl) rfl rfl ⟨ct_ BK798.out 0, ct_ BK798.out 1, ((HB.out.cell (World.block_lt_of_cell? w _ hw802_0)).trans hw802_0), ((HB.out.cell (World.block_lt_of_cell? w _ hw803_0)).trans hw803_0), ((HB.out.cell (World.block_lt_of_cell? w _ hw803_1)).trans hw803_1), ((HB.out.cell (World.block_lt_of_cell? w _ hw803_2)).trans hw803_2), ((HB.out.cell (World.block_lt_of_cell? w _ hw803_3)).trans hw803_3), ((HB.out.cell (World.block_lt_of_cell? w _ hw803_4)).trans hw803_4)⟩ (fun hHeld => ?_); refine with_tabW spec_l2Nodes.tab5 spec_l2Nodes.bits5 (fun HT_ HW_ => ?_)
    generalize wr.drew = w12 at HO_7 BK798 HB hx802_0 hx803_0 hx803_1 hx803_2 hx803_3 hx803_4 hHeld ⊢
    refine pu_ 0 17 (bm_ 13 1) HT_.out ?_
    refine pu_ 1 18 (bm_ 13 3) HT_.out ?_
    refine pu_ 3 20 (bm_ 13 11) HT_.out ?_
    refine pu_ 4 21 (bm_ 13 27) HT_.out ?_
    refine pu_ 5 22 (bm_ 13 59) HT_.out ?_
    refine tk_ 2 19 (bm_ 13 63) HT_.out HW_.out hHeld ?_
    refine tk_ 6 23 (bm_ 13 127) HT_.out HW_.out hHeld ?_
    refine pu_ 7 24 (bm_ 13 255) HT_.out ?_
    refine pu_ 8 25 (bm_ 13 511) HT_.out ?_
    refine tk_ 9 26 (bm_ 13 1023) HT_.out HW_.out hHeld ?_
    refine one_ (i := 10) (N := some 27) (bm_ 13 2047) rfl rfl (one_of HT_.out (by kernel_rfl)) (by decide) (fun K hK => ?_)
    refine value_ (w1 := ?_) (v := ?_) (by rfl) rfl ?_ ?_
    rotate_left 2
    ·go_simp
     constructor
     ·rfl
     ·rfl
    refine hK.out _ _ ⟨(blk_cell (blk_alloc BK798.out _) 0).trans rfl, (blk_cell (blk_alloc BK798.out _) 1).trans rfl, (World.cell?_alloc_lt _ _ _ (World.block_lt_of_cell? _ _ (((HB.out.cell (World.block_lt_of_cell? w _ hw802_0)).trans hw802_0)))).trans (((HB.out.cell (World.block_lt_of_cell? w _ hw802_0)).trans hw802_0)), (World.cell?_alloc_lt _ _ _ (World.block_lt_of_cell? _ _ (((HB.out.cell (World.block_lt_of_cell? w _ hw803_0)).trans hw803_0)))).trans (((HB.out.cell (World.block_lt_of_cell? w _ hw803_0)).trans hw803_0)), (World.cell?_alloc_lt _ _ _ (World.block_lt_of_cell? _ _ (((HB.out.cell (World.block_lt_of_cell? w _ hw803_1)).trans hw803_1)))).trans (((HB.out.cell (World.block_lt_of_cell? w _ hw803_1)).trans hw803_1)), (World.cell?_alloc_lt _ _ _ (World.block_lt_of_cell? _ _ (((HB.out.cell (World.block_lt_of_cell? w _ hw803_2)).trans hw803_2)))).trans (((HB.out.cell (World.block_lt_of_cell? w _ hw803_2)).trans hw803_2)), (World.cell?_alloc_lt _ _ _ (World.block_lt_of_cell? _ _ (((HB.out.cell (World.block_lt_of_cell? w _ hw803_3)).trans hw803_3)))).trans (((HB.out.cell (World.block_lt_of_cell? w _ hw803_3)).trans hw803_3)), (World.cell?_alloc_lt _ _ _ (World.block_lt_of_cell? _ _ (((HB.out.cell (World.block_lt_of_cell? w _ hw803_4)).trans hw803_4)))).trans (((HB.out.cell (World.block_lt_of_cell? w _ hw803_4)).trans hw803_4))⟩ (fun hHeld => ?_)
    clear hK K
    refine nm1_ (some 27) ?_
    refine one_ (i := 11) (N := some 28) (bm_ 13 4095) rfl rfl (one_of HT_.out (by kernel_rfl)) (by decide) (fun K hK => ?_)
    refine Kd.R_append_step (Kd.int .i64) (w0 := w) w.heap.size (by rfl) (.tmp 17) (.tmp 27) 41 3 (.int .i64 0) 8 rfl Try.underlying41 info3 rfl (by decide) (by omega) u7 x7_1 ((rd_T37 l0_1 (rd l1 x8_1)).f1) [.int .i64 ((rd_T37 l0_1 (rd l1 x8_1)).f1)] (fun _ => True) (fun _ => False) rfl rfl ?aP (fun _ hk => hk.elim) ?aF ?aO ?aB ?aS ?aL ?_
    (case aP => exact rfl)
    (case aB => exact (ne_ HB.out))
    (case aF => exact (fun _ _ => trivial))
    (case aO => exact (nr_ HO_7.out))
    (case aS => exact (below_size (ne_ HB.out)))
    (case aL => have := LMc11.out; omega)
    intro v805 w13 ho hb hg hat
    rw [← Ny804.out] at ho
    replace BK798 := Aside0.mk (blk_grown (g := gb798) (o := .cells #[.int .i64 a0_0, .slice (some ad803) l0_1.length c0_1] 29 (0, 0)) (nb_ BK798.out) hg (Kd.R_ne HO_7.out BK798.out (by decide)))
    replace HB := Aside0.mk (hb)
    have HO806 := Aside0.mk (ho)
    clear HO_7 ho hb hg hat
    refine hK.out _ _ ⟨ct_ BK798.out 0, ct_ BK798.out 1, ((HB.out.cell (World.block_lt_of_cell? w _ hw802_0)).trans hw802_0), ((HB.out.cell (World.block_lt_of_cell? w _ hw803_0)).trans hw803_0), ((HB.out.cell (World.block_lt_of_cell? w _ hw803_1)).trans hw803_1), ((HB.out.cell (World.block_lt_of_cell? w _ hw803_2)).trans hw803_2), ((HB.out.cell (World.block_lt_of_cell? w _ hw803_3)).trans hw803_3), ((HB.out.cell (World.block_lt_of_cell? w _ hw803_4)).trans hw803_4)⟩ (fun hHeld => ?_)
    clear hK K
    refine nm1_ (some 28) ?_
    refine pu_ 12 7 (bm_ 13 8191) HT_.out ?_
    refine done_ (done_of HT_.out (by kernel_rfl)) ?_
    try go_wp2
    go_roundg k1
    case measure => have := HK1.out; omega
    case rel => exact ⟨(y804), (wrap64 (x8_1 + 1)), ns_, H', ⟨by have := HK1.out; omega⟩, ⟨nr_ HO806.out⟩, ⟨nb_ BK798.out⟩, ⟨ne_ HB.out⟩⟩
end Go.Proofs.Ytpjmkghmjpbldaa.Print
