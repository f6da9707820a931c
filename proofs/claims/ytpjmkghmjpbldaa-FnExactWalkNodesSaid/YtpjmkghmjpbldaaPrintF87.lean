-- Made by this session's own program (wip/patch_print.py, over the kit's print). Lean checks it.
import Derived.Test.YtpjmkghmjpbldaaPrint0
namespace Go.Proofs.Ytpjmkghmjpbldaa.Print
open Go.RowKit Go.Proofs.YtpjmkghmjpbldaaW.PrintWords Go.Proofs.YtpjmkghmjpbldaaW.PrintLast Go.Proofs.YtpjmkghmjpbldaaW.PrintMore Go.Proofs.YtpjmkghmjpbldaaX
attribute [local go_sem] max2_int min2_int max_two min_two max_three min_three max_four min_four   -- for this text's walks alone
set_option linter.unusedVariables false
set_option linter.unusedSimpArgs false

/-! ### spec_l2Nodes: function 87 -/
def spec_l2Nodes.l0 : Nat → List Int → List Int → Int → Int → List (S37) → Option (List Int)
  | 0, _, _, _, _, _ => none
  | k + 1, x1, x7, x8, x788000, x788001 => if x8 < (x1.length : Int) then (if 0 ≤ x8 then (if 0 ≤ (rd x1 x8) then (if (rd x1 x8) < (x788001.length : Int) then (if x7.length < 17592186044416 then (spec_l2Nodes.l0 k x1 (x7 ++ [(rd_T37 x788001 (rd x1 x8)).f1]) (wrap64 (x8 + 1)) x788000 x788001) else (none)) else (none)) else (none)) else (none)) else (some x7)
def spec_l2Nodes.f (k : Nat) (a0_0 : Int) (l0_1 : List (S37)) (l1 : List Int) (a2 : Int) : Option (List Int) := spec_l2Nodes.l0 k l1 (([a2] : List Int)) 0 a0_0 l0_1
theorem spec_l2Nodes.mono_l : ∀ k, (∀ y0 y1 y2 y3 y4, LeO (spec_l2Nodes.l0 k y0 y1 y2 y3 y4) (spec_l2Nodes.l0 (k + 1) y0 y1 y2 y3 y4))
  | 0 => fun _ _ _ _ _ r h => by simp [spec_l2Nodes.l0] at h
  | k + 1 => by
    have ih0 := spec_l2Nodes.mono_l k
    · intro y0 y1 y2 y3 y4
      unfold spec_l2Nodes.l0
      repeat' first
      | (with_reducible exact ih0 _ _ _ _ _)
      | (with_reducible exact LeO.refl _)
      | (with_reducible exact LeO.none _)
      | (with_reducible refine LeO.ite ?_ ?_)
      | (with_reducible refine LeO.bind ?_ (fun _ => ?_))
      | exact ih0 _ _ _ _ _
      | exact LeO.none _
      | refine LeO.ite ?_ ?_
      | refine LeO.bind ?_ (fun _ => ?_)
theorem spec_l2Nodes.mono : ∀ a0 a1 a2 a3 k, LeO (spec_l2Nodes.f k a0 a1 a2 a3) (spec_l2Nodes.f (k + 1) a0 a1 a2 a3) := by
  intro a0 a1 a2 a3 k
  have ih0 := spec_l2Nodes.mono_l k
  unfold spec_l2Nodes.f
  repeat' first
      | (with_reducible exact ih0 _ _ _ _ _)
      | (with_reducible exact LeO.refl _)
      | (with_reducible exact LeO.none _)
      | (with_reducible refine LeO.ite ?_ ?_)
      | (with_reducible refine LeO.bind ?_ (fun _ => ?_))
      | exact ih0 _ _ _ _ _
      | exact LeO.none _
      | refine LeO.ite ?_ ?_
      | refine LeO.bind ?_ (fun _ => ?_)
def spec_l2Nodes.T5 : Bool × List (List Nat × List Nat) := (true, [([], []), ([], []), ([1], [1]), ([], []), ([], []), ([3, 4], [3, 4]), ([5], [5]), ([2, 6], [2, 6]), ([7], [7]), ([8], [8]), ([9], [9]), ([0, 10], [0, 10]), ([11, 11, 0, 1, 2, 3, 4, 5, 6, 7, 8, 9, 10, 11], [0, 11])])
def spec_l2Nodes.B5 : List Nat := [0, 0, 2, 0, 0, 24, 56, 126, 254, 510, 1022, 2047, 4095]
theorem spec_l2Nodes.tab5 : rtab .any (opsOf Try.f87 5) = spec_l2Nodes.T5 := by kernel_rfl
theorem spec_l2Nodes.bits5 : waitsOk spec_l2Nodes.T5.2 spec_l2Nodes.B5 = true := by kernel_rfl
set_option maxHeartbeats 8000000 in
set_option maxRecDepth 100000 in
theorem spec_l2Nodes.calls (k : Nat) (a0_0 : Int) (A0_1 : Option Addr) (c0_1 : Nat) (l0_1 : List (S37)) (A1 : Option Addr) (c1 : Nat) (l1 : List Int) (a2 : Int) (r : List Int) (w : World) (hr0_1 : Kd.C k37 w A0_1 l0_1.length l0_1) (hc0_1 : l0_1.length ≤ c0_1) (hr1 : Kd.C (Kd.int .i64) w A1 l1.length l1) (hc1 : l1.length ≤ c1) (h : spec_l2Nodes.f k a0_0 l0_1 l1 a2 = some r) :
    Calls Try.prog 87 #[.agg #[.int .i64 a0_0, .slice A0_1 l0_1.length c0_1], .slice A1 l1.length c1, .int .i64 a2] w fun e w' => ∃ v0_ : Value, e = .returned (v0_) ∧ Kd.R (Kd.int .i64) 3 w' w.heap.size (fun _ => True) v0_ r ∧ Below w.heap.size w w' := by
  have hu29 := Try.underlying29
  have HR0_1 := Aside0.mk hr0_1
  have HC0_1 := Aside0.mk hc0_1
  clear hr0_1 hc0_1
  have HR1 := Aside0.mk hr1
  have HC1 := Aside0.mk hc1
  clear hr1 hc1
  have HB := Aside0.mk (Below.refl w.heap.size w)
  have H : (spec_l2Nodes.l0 k l1 (([a2] : List Int)) 0 a0_0 l0_1) = some r := h
  clear h
  obtain ⟨y788, hy788⟩ : ∃ y_ : List Int, y_ = (([a2] : List Int)) := ⟨_, rfl⟩
  replace H : (spec_l2Nodes.l0 k l1 y788 0 a0_0 l0_1) = some r := by first | (rw [hy788]; with_reducible exact H) | (have H2_ := (Option.bind_some _ _).symm.trans H; rw [hy788]; with_reducible exact H2_) | (have H2_ := (Option.bind_some _ _).symm.trans H; with_reducible exact H2_) | with_reducible exact H | (rw [hy788]; exact H) | exact H
  have Ny788 := Aside0.mk hy788
  clear hy788
  have H' := Aside0.mk H
  clear H
  go_enter Try.func87, Try.ntmps87
  go_wp2_with (first | ((with_reducible refine gate_dst (N := 3) rfl ?_); refine box_event ?hg (N := 3) ?hd (cs := #[.int .i64 a0_0, .slice A0_1 l0_1.length c0_1]) (t := 29) ?hr ?_; (case hd => rfl); (case hg => rfl); (case hr => first | (go_simp; done) | (go_simp; rfl)); intro gb787 hg w4 hbox hb; have n0_ := Aside0.mk (below_step (by repeat (first | (with_reducible first | exact HB.out | apply below_alloc | apply pw_below_drewN | apply below_drew1) | exact HB.out)) hb); have n1_ := Aside0.mk (hbox); have n2_ := Aside0.mk ((by rw [hg]; exact (below_size (by repeat (first | (with_reducible first | exact HB.out | apply below_alloc | apply pw_below_drewN | apply below_drew1) | exact HB.out))) : w.heap.size ≤ gb787)); have n3_ := Aside0.mk ((by rw [hg]; exact (below_size (by repeat (first | (with_reducible first | exact HB.out | apply below_alloc | apply pw_below_drewN | apply below_drew1) | exact HB.out))) : w.heap.size ≤ gb787)); clear HB; have HB := n0_; have BK787 := n1_; have GW787 := n2_; have GE787 := n3_; clear n0_ n1_ n2_ n3_; clear hb hbox hg) | ((with_reducible refine gate_dst (N := 10) rfl ?_); refine Kd.R_lit (Kd.int .i64) _ 3 ?hg (N := 10) ?hd (xs := ([a2] : List Int)) (inner := [.int .i64 a2]) (ok := fun _ => True) (okp := fun _ => True) ?hr ?hp (fun _ hk => hk) trivial (Below.refl _ _) (Nat.le_refl _) (by simp) ?_; (case hd => rfl); (case hg => rfl); (case hr => first | (go_simp; done) | (go_simp; rfl)); (case hp => exact (Reps.one (show Kd.M (Kd.int .i64) _ _ _ a2 [.int .i64 a2] from rfl) (Reps.none _ _))); intro v789 w5 ho6 hb hg_ hnew_; clear hg_ hnew_; (first | rw [← Ny788.out] at ho6 | (simp only [Int.reduceToNat] at ho6; rw [← Ny788.out] at ho6)); have n0_ := Aside0.mk (Kd.R_lower ho6 (below_size (by repeat (first | (with_reducible first | exact HB.out | apply below_alloc | apply pw_below_drewN | apply below_drew1 | refine below_set ?_ GE787.out) | exact HB.out)))); have n1_ := Aside0.mk (blk_below (g := gb787) (o := .cells #[.int .i64 a0_0, .slice A0_1 l0_1.length c0_1] 29 (0, 0)) (by (with_reducible repeat (first | refine blk_drewN ?_ _ | refine blk_drew ?_ | refine blk_alloc ?_ _)); exact BK787.out) hb); have n2_ := Aside0.mk (below_step (by repeat (first | (with_reducible first | exact HB.out | apply below_alloc | apply pw_below_drewN | apply below_drew1 | refine below_set ?_ GE787.out) | exact HB.out)) hb); clear BK787; clear HB; have HO790 := n0_; have BK787 := n1_; have HB := n2_; clear n0_ n1_ n2_; clear hb ho6))
  go_loopg [7, 8] k (fun kq v7 v8 w' => ∃ (x7_1 : List Int) (x8_1 : Int), v8 = .int .i64 x8_1 ∧ Aside0 (spec_l2Nodes.l0 kq l1 x7_1 x8_1 a0_0 l0_1 = some r) ∧ Aside0 (kq ≤ k) ∧ Aside0 (Kd.R (Kd.int .i64) 3 w' w.heap.size (fun _ => True) v7 x7_1) ∧ Aside0 (w'.heap[gb787]? = some (.cells #[.int .i64 a0_0, (.slice A0_1 l0_1.length c0_1)] 29 (0, 0))) ∧ Aside0 (Below w.heap.size w w'))
  case atStart => exact ⟨(y788), (0), (by first | rfl | (simp; done) | (simp [*]; done) | (simp [*]; exact Option.some.inj (Eq.trans (Eq.symm (Aside0.out (by assumption))) (Aside0.out (by assumption))))), H', ⟨Nat.le_refl _⟩, ⟨by (with_reducible repeat (first | apply Kd.R_alloc | apply Kd.R_drewN | apply Kd.R_drew)); exact HO790.out⟩, ⟨by (with_reducible repeat (first | refine blk_drewN ?_ _ | refine blk_drew ?_ | refine blk_alloc ?_ _)); exact BK787.out⟩, ⟨by repeat (first | (with_reducible first | exact HB.out | apply below_alloc | apply pw_below_drewN | apply below_drew1 | refine below_set ?_ GE787.out) | exact HB.out)⟩⟩
  case round =>
   clear H'
   try clear c1
   try clear p2
   obtain ⟨x7_1, x8_1, rfl, HA, HK1, HO_7, BK787, HB⟩ := hrel
   cases gk with
   | zero => exact absurd HA.out (by simp [spec_l2Nodes.l0])
   | succ k1 =>
    have H := HA.out
    clear HA
    simp only [spec_l2Nodes.l0] at H
    by_cases c7 : x8_1 < (l1.length : Int)
    ·rw [if_pos c7] at H
     have c7b0 : decide (x8_1 < (l1.length : Int)) = true := decide_eq_true c7
     clear c7
     by_cases c8 : 0 ≤ x8_1
     ·rw [if_pos c8] at H
      have c8b0 : decide (0 ≤ x8_1) = true := decide_eq_true c8
      clear c8
      by_cases c9 : 0 ≤ (rd l1 x8_1)
      ·rw [if_pos c9] at H
       have c9b0 : decide (0 ≤ (rd l1 x8_1)) = true := decide_eq_true c9
       clear c9
       by_cases c10 : (rd l1 x8_1) < (l0_1.length : Int)
       ·rw [if_pos c10] at H
        have c10b0 : decide ((rd l1 x8_1) < (l0_1.length : Int)) = true := decide_eq_true c10
        clear c10
        by_cases c11 : x7_1.length < 17592186044416
        ·rw [if_pos c11] at H
         have LMc11 := Aside0.mk c11
         clear c11
         obtain ⟨y793, hy793⟩ : ∃ y_ : List Int, y_ = (x7_1 ++ [(rd_T37 l0_1 (rd l1 x8_1)).f1]) := ⟨_, rfl⟩
         replace H : (spec_l2Nodes.l0 k1 l1 y793 (wrap64 (x8_1 + 1)) a0_0 l0_1) = some r := by first | (rw [hy793]; with_reducible exact H) | (have H2_ := (Option.bind_some _ _).symm.trans H; rw [hy793]; with_reducible exact H2_) | (have H2_ := (Option.bind_some _ _).symm.trans H; with_reducible exact H2_) | with_reducible exact H | (rw [hy793]; exact H) | exact H
         have Ny793 := Aside0.mk hy793
         clear hy793
         have H' := Aside0.mk H
         clear H
         try go_wp2
         have n0_ := Aside0.mk (Kd.R_drew HO_7.out)
         have n1_ := Aside0.mk (blk_drew BK787.out)
         have n2_ := Aside0.mk (below_drew1 HB.out)
         clear HO_7
         clear BK787
         clear HB
         have HO_7 := n0_
         have BK787 := n1_
         have HB := n2_
         clear n0_ n1_ n2_
         have p791 : 0 ≤ (x8_1 : Int) := of_decide_eq_true (by first | (with_reducible assumption) | assumption)
         have q791 : x8_1 < (l1.length : Int) := of_decide_eq_true (by first | (with_reducible assumption) | assumption)
         obtain ⟨ad791, e791, hx791_0⟩ := Kd.at_int HR1.out x8_1 p791 q791
         have hw791_0 := hx791_0
         cases e791
         replace hx791_0 := (HB.out.cell (World.block_lt_of_cell? w _ hx791_0)).trans hx791_0
         replace p791 := eq_true p791
         replace q791 := eq_true q791
         have p792 : 0 ≤ ((rd l1 x8_1) : Int) := of_decide_eq_true (by first | (with_reducible assumption) | assumption)
         have q792 : (rd l1 x8_1) < (l0_1.length : Int) := of_decide_eq_true (by first | (with_reducible assumption) | assumption)
         obtain ⟨ad792, e792, hx792_0, hx792_1, hx792_2, hx792_3, hx792_4⟩ := at_T37 HR0_1.out (rd l1 x8_1) p792 q792
         have hw792_4 := hx792_4
         have hw792_3 := hx792_3
         have hw792_2 := hx792_2
         have hw792_1 := hx792_1
         have hw792_0 := hx792_0
         cases e792
         replace hx792_0 := (HB.out.cell (World.block_lt_of_cell? w _ hx792_0)).trans hx792_0
         replace hx792_1 := (HB.out.cell (World.block_lt_of_cell? w _ hx792_1)).trans hx792_1
         replace hx792_2 := (HB.out.cell (World.block_lt_of_cell? w _ hx792_2)).trans hx792_2
         replace hx792_3 := (HB.out.cell (World.block_lt_of_cell? w _ hx792_3)).trans hx792_3
         replace hx792_4 := (HB.out.cell (World.block_lt_of_cell? w _ hx792_4)).trans hx792_4
         replace p792 := eq_true p792
         replace q792 := eq_true q792
         refine start_ (n := 13) (S := fun w' => w'.cell? ⟨gb787, 0, none⟩ = some (.int .i64 a0_0) ∧ w'.cell? ⟨gb787, 1, none⟩ = some (.slice (some ad792) l0_1.length c0_1) ∧ w'.cell? (ad791.add (x8_1).toNat) = some (.int .i64 (rd l1 x8_1)) ∧ w'.cell? (ad792.add (((rd l1 x8_1)).toNat * 5)) = some (.int .i64 ((rd_T37 l0_1 (rd l1 x8_1)).f0)) ∧ w'.cell? ⟨(ad792.add (((rd l1 x8_1)).toNat * 5)).block, (ad792.add (((rd l1 x8_1)).toNat * 5)).off + 1, none⟩ = some (.int .i64 ((rd_T37 l0_1 (rd l1 x8_1)).f1)) ∧ w'.cell? ⟨(ad792.add (((rd l1 x8_1)).toNat * 5)).block, (ad792.add (((rd l1 x8_1)).toNat * 5)).off + 2, none⟩ = some (.int .i64 ((rd_T37 l0_1 (rd l1 x8_1)).f2)) ∧ w'.cell? ⟨(ad792.add (((rd l1 x8_1)).toNat * 5)).block, (ad792.add (((rd l1 x8_1)).toNat * 5)).off + 3, none⟩ = some (.int .i64 ((rd_T37 l0_1 (rd l1 x8_1)).f3)) ∧ w'.cell? ⟨(ad792.add (((rd l1 x8_1)).toNat * 5)).block, (ad792.add (((rd l1 x8_1)).toNat * 5)).off + 4, none⟩ = some (.int .i64 ((rd_T37 l0_1 (rd l1 x8_1)).f4))) (ds := []) #[false, false, false, false, false, false, false, false, false, false, false, false, false] (by kernel_rfl) rfl rfl ⟨(blk_cell BK787.out 0).trans rfl, (blk_cell BK787.out 1).trans rfl, ((HB.out.cell (World.block_lt_of_cell? w _ hw791_0)).trans hw791_0), ((HB.out.cell (World.block_lt_of_cell? w _ hw792_0)).trans hw792_0), ((HB.out.cell (World.block_lt_of_cell? w _ hw792_1)).trans hw792_1), ((HB.out.cell (World.block_lt_of_cell? w _ hw792_2)).trans hw792_2), ((HB.out.cell (World.block_lt_of_cell? w _ hw792_3)).trans hw792_3), ((HB.out.cell (World.block_lt_of_cell? w _ hw792_4)).trans hw792_4)⟩ (fun hHeld => ?_); refine with_tabW spec_l2Nodes.tab5 spec_l2Nodes.bits5 (fun HT_ HW_ => ?_)
         generalize wr.drew = w12 at HO_7 BK787 HB hx791_0 hx792_0 hx792_1 hx792_2 hx792_3 hx792_4 hHeld ⊢
         refine pure_ (i := 0) (N := some 17) (v := ?_) (a' := ?_) #[true, false, false, false, false, false, false, false, false, false, false, false, false] rfl rfl (any_of HT_.out (by kernel_rfl)) (fun _ _ _ h => h) (Or.inl ⟨by rfl, ?_⟩) ?_ ?_
         rotate_left
         ·intro w'
          go_simp
          with_reducible rfl
         rotate_left
         ·simp only [Act.put, List.setIfInBounds_toArray, List.set_cons_zero, List.set_cons_succ, i64_w, i32_w]
          rfl
         refine pure_ (i := 1) (N := some 18) (v := ?_) (a' := ?_) #[true, true, false, false, false, false, false, false, false, false, false, false, false] rfl rfl (any_of HT_.out (by kernel_rfl)) (fun _ _ _ h => h) (Or.inl ⟨by rfl, ?_⟩) ?_ ?_
         rotate_left
         ·intro w'
          go_simp
          with_reducible rfl
         rotate_left
         ·simp only [Act.put, List.setIfInBounds_toArray, List.set_cons_zero, List.set_cons_succ, i64_w, i32_w]
          rfl
         refine pure_ (i := 3) (N := some 20) (v := ?_) (a' := ?_) #[true, true, false, true, false, false, false, false, false, false, false, false, false] rfl rfl (any_of HT_.out (by kernel_rfl)) (fun _ _ _ h => h) (Or.inl ⟨by rfl, ?_⟩) ?_ ?_
         rotate_left
         ·intro w'
          go_simp
          with_reducible rfl
         rotate_left
         ·simp only [Act.put, List.setIfInBounds_toArray, List.set_cons_zero, List.set_cons_succ, i64_w, i32_w]
          rfl
         refine pure_ (i := 4) (N := some 21) (v := ?_) (a' := ?_) #[true, true, false, true, true, false, false, false, false, false, false, false, false] rfl rfl (any_of HT_.out (by kernel_rfl)) (fun _ _ _ h => h) (Or.inl ⟨by rfl, ?_⟩) ?_ ?_
         rotate_left
         ·intro w'
          go_simp
          with_reducible rfl
         rotate_left
         ·simp only [Act.put, List.setIfInBounds_toArray, List.set_cons_zero, List.set_cons_succ, i64_w, i32_w]
          rfl
         refine pure_ (i := 5) (N := some 22) (v := ?_) (a' := ?_) #[true, true, false, true, true, true, false, false, false, false, false, false, false] rfl rfl (any_of HT_.out (by kernel_rfl)) (fun _ _ _ h => h) (Or.inl ⟨by rfl, ?_⟩) ?_ ?_
         rotate_left
         ·intro w'
          go_simp
          with_reducible rfl
         rotate_left
         ·simp only [Act.put, List.setIfInBounds_toArray, List.set_cons_zero, List.set_cons_succ, i64_w, i32_w]
          rfl
         refine take_ (i := 2) (N := some 19) (v := ?_) (a' := ?_) #[true, true, true, true, true, true, false, false, false, false, false, false, false] rfl rfl (take_ofW HT_.out HW_.out (by kernel_rfl)) (fun _ _ _ h => h) (Or.inl ⟨by rfl, ?_⟩) hHeld ?_ ?_
         rotate_left
         ·rintro w' ⟨s0, s1, s2, s3, s4, s5, s6, s7⟩
          go_simp
          with_reducible rfl
         rotate_left
         ·simp only [Act.put, List.setIfInBounds_toArray, List.set_cons_zero, List.set_cons_succ, i64_w, i32_w]
          rfl
         refine take_ (i := 6) (N := some 23) (v := ?_) (a' := ?_) #[true, true, true, true, true, true, true, false, false, false, false, false, false] rfl rfl (take_ofW HT_.out HW_.out (by kernel_rfl)) (fun _ _ _ h => h) (Or.inl ⟨by rfl, ?_⟩) hHeld ?_ ?_
         rotate_left
         ·rintro w' ⟨s0, s1, s2, s3, s4, s5, s6, s7⟩
          go_simp
          with_reducible rfl
         rotate_left
         ·simp only [Act.put, List.setIfInBounds_toArray, List.set_cons_zero, List.set_cons_succ, i64_w, i32_w]
          rfl
         refine pure_ (i := 7) (N := some 24) (v := ?_) (a' := ?_) #[true, true, true, true, true, true, true, true, false, false, false, false, false] rfl rfl (any_of HT_.out (by kernel_rfl)) (fun _ _ _ h => h) (Or.inl ⟨by rfl, ?_⟩) ?_ ?_
         rotate_left
         ·intro w'
          go_simp
          with_reducible rfl
         rotate_left
         ·simp only [Act.put, List.setIfInBounds_toArray, List.set_cons_zero, List.set_cons_succ, i64_w, i32_w]
          rfl
         refine pure_ (i := 8) (N := some 25) (v := ?_) (a' := ?_) #[true, true, true, true, true, true, true, true, true, false, false, false, false] rfl rfl (any_of HT_.out (by kernel_rfl)) (fun _ _ _ h => h) (Or.inl ⟨by rfl, ?_⟩) ?_ ?_
         rotate_left
         ·intro w'
          go_simp
          with_reducible rfl
         rotate_left
         ·simp only [Act.put, List.setIfInBounds_toArray, List.set_cons_zero, List.set_cons_succ, i64_w, i32_w]
          rfl
         refine take_ (i := 9) (N := some 26) (v := ?_) (a' := ?_) #[true, true, true, true, true, true, true, true, true, true, false, false, false] rfl rfl (take_ofW HT_.out HW_.out (by kernel_rfl)) (fun _ _ _ h => h) (Or.inl ⟨by rfl, ?_⟩) hHeld ?_ ?_
         rotate_left
         ·rintro w' ⟨s0, s1, s2, s3, s4, s5, s6, s7⟩
          go_simp
          with_reducible rfl
         rotate_left
         ·simp only [Act.put, List.setIfInBounds_toArray, List.set_cons_zero, List.set_cons_succ, i64_w, i32_w]
          rfl
         refine one_ (i := 10) (N := some 27) #[true, true, true, true, true, true, true, true, true, true, true, false, false] rfl rfl (one_of HT_.out (by kernel_rfl)) (by decide) (fun K hK => ?_)
         refine value_ (w1 := ?_) (v := ?_) (by rfl) rfl ?_ ?_
         rotate_left 2
         ·go_simp
          constructor
          ·rfl
          ·rfl
         refine hK.out _ _ ⟨(blk_cell (blk_alloc BK787.out _) 0).trans rfl, (blk_cell (blk_alloc BK787.out _) 1).trans rfl, (World.cell?_alloc_lt _ _ _ (World.block_lt_of_cell? _ _ (((HB.out.cell (World.block_lt_of_cell? w _ hw791_0)).trans hw791_0)))).trans (((HB.out.cell (World.block_lt_of_cell? w _ hw791_0)).trans hw791_0)), (World.cell?_alloc_lt _ _ _ (World.block_lt_of_cell? _ _ (((HB.out.cell (World.block_lt_of_cell? w _ hw792_0)).trans hw792_0)))).trans (((HB.out.cell (World.block_lt_of_cell? w _ hw792_0)).trans hw792_0)), (World.cell?_alloc_lt _ _ _ (World.block_lt_of_cell? _ _ (((HB.out.cell (World.block_lt_of_cell? w _ hw792_1)).trans hw792_1)))).trans (((HB.out.cell (World.block_lt_of_cell? w _ hw792_1)).trans hw792_1)), (World.cell?_alloc_lt _ _ _ (World.block_lt_of_cell? _ _ (((HB.out.cell (World.block_lt_of_cell? w _ hw792_2)).trans hw792_2)))).trans (((HB.out.cell (World.block_lt_of_cell? w _ hw792_2)).trans hw792_2)), (World.cell?_alloc_lt _ _ _ (World.block_lt_of_cell? _ _ (((HB.out.cell (World.block_lt_of_cell? w _ hw792_3)).trans hw792_3)))).trans (((HB.out.cell (World.block_lt_of_cell? w _ hw792_3)).trans hw792_3)), (World.cell?_alloc_lt _ _ _ (World.block_lt_of_cell? _ _ (((HB.out.cell (World.block_lt_of_cell? w _ hw792_4)).trans hw792_4)))).trans (((HB.out.cell (World.block_lt_of_cell? w _ hw792_4)).trans hw792_4))⟩ (fun hHeld => ?_)
         clear hK K
         refine norm_ (a' := ?_) ?_ ?_
         rotate_left
         ·show Act.put _ (some 27) _ = _
          simp only [Act.put, List.setIfInBounds_toArray, List.set_cons_zero, List.set_cons_succ, i64_w, i32_w]
          rfl
         refine one_ (i := 11) (N := some 28) #[true, true, true, true, true, true, true, true, true, true, true, true, false] rfl rfl (one_of HT_.out (by kernel_rfl)) (by decide) (fun K hK => ?_)
         refine Kd.R_append_step (Kd.int .i64) (w0 := w) w.heap.size (by rfl) (.tmp 17) (.tmp 27) 41 3 (.int .i64 0) 8 rfl Try.underlying41 info3 rfl (by decide) (by omega) u7 x7_1 ((rd_T37 l0_1 (rd l1 x8_1)).f1) [.int .i64 ((rd_T37 l0_1 (rd l1 x8_1)).f1)] (fun _ => True) (fun _ => False) rfl rfl ?aP (fun _ hk => hk.elim) ?aF ?aO ?aB ?aS ?aL ?_
         (case aP => exact rfl)
         (case aB => exact (by repeat (first | (with_reducible first | exact HB.out | apply below_alloc | apply pw_below_drewN | apply below_drew1 | refine below_set ?_ GE787.out) | exact HB.out)))
         (case aF => exact (fun _ _ => trivial))
         (case aO => exact (by (with_reducible repeat (first | apply Kd.R_alloc | apply Kd.R_drewN | apply Kd.R_drew)); exact HO_7.out))
         (case aS => exact (below_size (by repeat (first | (with_reducible first | exact HB.out | apply below_alloc | apply pw_below_drewN | apply below_drew1 | refine below_set ?_ GE787.out) | exact HB.out))))
         (case aL => have := LMc11.out; omega)
         intro v794 w13 ho hb hg hat
         rw [← Ny793.out] at ho
         have n0_ := Aside0.mk (blk_grown (g := gb787) (o := .cells #[.int .i64 a0_0, .slice (some ad792) l0_1.length c0_1] 29 (0, 0)) (by (with_reducible repeat (first | refine blk_drewN ?_ _ | refine blk_drew ?_ | refine blk_alloc ?_ _)); exact BK787.out) hg (Kd.R_ne HO_7.out BK787.out (by decide)))
         have n1_ := Aside0.mk (hb)
         have n2_ := Aside0.mk (ho)
         clear BK787
         clear HB
         clear HO_7
         have BK787 := n0_
         have HB := n1_
         have HO795 := n2_
         clear n0_ n1_ n2_
         clear ho hb hg hat
         refine hK.out _ _ ⟨(blk_cell BK787.out 0).trans rfl, (blk_cell BK787.out 1).trans rfl, ((HB.out.cell (World.block_lt_of_cell? w _ hw791_0)).trans hw791_0), ((HB.out.cell (World.block_lt_of_cell? w _ hw792_0)).trans hw792_0), ((HB.out.cell (World.block_lt_of_cell? w _ hw792_1)).trans hw792_1), ((HB.out.cell (World.block_lt_of_cell? w _ hw792_2)).trans hw792_2), ((HB.out.cell (World.block_lt_of_cell? w _ hw792_3)).trans hw792_3), ((HB.out.cell (World.block_lt_of_cell? w _ hw792_4)).trans hw792_4)⟩ (fun hHeld => ?_)
         clear hK K
         refine norm_ (a' := ?_) ?_ ?_
         rotate_left
         ·show Act.put _ (some 28) _ = _
          simp only [Act.put, List.setIfInBounds_toArray, List.set_cons_zero, List.set_cons_succ, i64_w, i32_w]
          rfl
         refine pure_ (i := 12) (N := some 7) (v := ?_) (a' := ?_) #[true, true, true, true, true, true, true, true, true, true, true, true, true] rfl rfl (any_of HT_.out (by kernel_rfl)) (fun _ _ _ h => h) (Or.inl ⟨by rfl, ?_⟩) ?_ ?_
         rotate_left
         ·intro w'
          go_simp
          with_reducible rfl
         rotate_left
         ·simp only [Act.put, List.setIfInBounds_toArray, List.set_cons_zero, List.set_cons_succ, i64_w, i32_w]
          rfl
         refine done_ (done_of HT_.out (by kernel_rfl)) ?_
         try go_wp2
         go_roundg k1
         case measure => have := HK1.out; omega
         case rel => exact ⟨(y793), (wrap64 (x8_1 + 1)), (by first | rfl | (simp; done) | (simp [*]; done) | (simp [*]; exact Option.some.inj (Eq.trans (Eq.symm (Aside0.out (by assumption))) (Aside0.out (by assumption))))), H', ⟨by have := HK1.out; omega⟩, ⟨by (with_reducible repeat (first | apply Kd.R_alloc | apply Kd.R_drewN | apply Kd.R_drew)); exact HO795.out⟩, ⟨by (with_reducible repeat (first | refine blk_drewN ?_ _ | refine blk_drew ?_ | refine blk_alloc ?_ _)); exact BK787.out⟩, ⟨by repeat (first | (with_reducible first | exact HB.out | apply below_alloc | apply pw_below_drewN | apply below_drew1 | refine below_set ?_ GE787.out) | exact HB.out)⟩⟩
        ·rw [if_neg c11] at H
         exact absurd H (by simp)
       ·rw [if_neg c10] at H
        exact absurd H (by simp)
      ·rw [if_neg c9] at H
       exact absurd H (by simp)
     ·rw [if_neg c8] at H
      exact absurd H (by simp)
    ·rw [if_neg c7] at H
     have c7b0 : decide (x8_1 < (l1.length : Int)) = false := decide_eq_false c7
     clear c7
     obtain rfl := Option.some.inj H
     go_wp2
     go_ret
     exact ⟨_, by first | rfl | (simp [errW_none, errW_some] <;> rfl) | (simp [*, errW_none, errW_some] <;> rfl), by (with_reducible repeat (first | apply Kd.R_alloc | apply Kd.R_drewN | apply Kd.R_drew)); exact HO_7.out, by repeat (first | (with_reducible first | exact HB.out | apply below_alloc | apply pw_below_drewN | apply below_drew1 | refine below_set ?_ GE787.out) | exact HB.out)⟩

end Go.Proofs.Ytpjmkghmjpbldaa.Print
