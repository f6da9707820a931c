-- Made by this session's own program (wip/patch_print.py, over the kit's print). Lean checks it.
import Derived.Test.YtpjmkghmjpbldaaPrint0
import Derived.Test.YtpjmkghmjpbldaaPrintF88
namespace Go.Proofs.Ytpjmkghmjpbldaa.Print
open Go.RowKit Go.Proofs.YtpjmkghmjpbldaaW.PrintWords Go.Proofs.YtpjmkghmjpbldaaW.PrintLast Go.Proofs.YtpjmkghmjpbldaaW.PrintMore Go.Proofs.YtpjmkghmjpbldaaX
attribute [local go_sem] max2_int min2_int max_two min_two max_three min_three max_four min_four   -- for this text's walks alone
set_option linter.unusedVariables false
set_option linter.unusedSimpArgs false

theorem ng106_89 {B : Nat} {w W W' : World} (h : Below B w W) (e : Below B w W → Below B w W' := by intro h_; repeat (first | (with_reducible first | exact h_ | apply below_alloc | apply pw_below_drewN | apply below_drew1 | refine below_set ?_ (IsS106.ge (Aside0.out (by with_reducible assumption))) | refine below_set ?_ (Aside0.out (by with_reducible assumption))) | exact h_)) : Below B w W' := e h
theorem ni106_89 {p q : Prop} (h : p) (e : p → q := by intro h_; repeat (first | (with_reducible first | exact h_ | apply IsS106.alloc | apply IsS106.drewN | apply IsS106.drew | apply IsS106.set_1 | refine IsS106.far ?_ (Aside0.out (by with_reducible assumption)) _) | exact h_)) : q := e h
/-! ### spec_l30Walk: function 89 -/
mutual
def spec_l30Walk.l0 : Nat → List Int → Int → Int → List Int → Int → Int → List (S37) → Option (List Int × Int)
  | 0, _, _, _, _, _, _, _ => none
  | k + 1, x9, x10, x11, x1000, x1001, x561000, x561001 => if x11 > 0 then (spec_l30Walk.l1 k x9 x10 x11 (([] : List Int)) 0 x1000 x1001 x561000 x561001) else (some (x9, x1001))
def spec_l30Walk.l1 : Nat → List Int → Int → Int → List Int → Int → List Int → Int → Int → List (S37) → Option (List Int × Int)
  | 0, _, _, _, _, _, _, _, _, _ => none
  | k + 1, x9, x10, x11, x12, x13, x1000, x1001, x561000, x561001 => if x13 < (x561001.length : Int) then (if 0 ≤ x13 then (if ((rd_T37 x561001 x13).f0) = x10 then (if x12.length < 17592186044416 then (spec_l30Walk.l1 k x9 x10 x11 (x12 ++ [x13]) (wrap64 (x13 + 1)) x1000 x1001 x561000 x561001) else (none)) else (spec_l30Walk.l1 k x9 x10 x11 x12 (wrap64 (x13 + 1)) x1000 x1001 x561000 x561001)) else (none)) else (if (x12.length : Int) = 0 then (some (x9, x1001)) else ((spec_l30Rd_pick.f k x1000 x1001 (x12.length : Int)).bind fun bt573 => (if 0 ≤ bt573.1 then (if bt573.1 < (x12.length : Int) then (if x9.length < 17592186044416 then (if 0 ≤ (rd x12 bt573.1) then (if (rd x12 bt573.1) < (x561001.length : Int) then (spec_l30Walk.l0 k (x9 ++ [rd x12 bt573.1]) ((rd_T37 x561001 (rd x12 bt573.1)).f1) (wrap64 (x11 - 1)) x1000 bt573.2 x561000 x561001) else (none)) else (none)) else (none)) else (none)) else (none))))
end
def spec_l30Walk.f (k : Nat) (s0_0 : List Int) (s0_1 : Int) (a1_0 : Int) (l1_1 : List (S37)) (a2 : Int) (a3 : Int) : Option (List Int × Int) := (spec_l30Rd_pick.f k s0_0 s0_1 (wrap64 (a3 + 1))).bind fun bt564 => (spec_l30Walk.l0 k (([] : List Int)) a2 bt564.1 s0_0 bt564.2 a1_0 l1_1)
theorem spec_l30Walk.mono_l : ∀ k, (∀ y0 y1 y2 y3 y4 y5 y6, LeO (spec_l30Walk.l0 k y0 y1 y2 y3 y4 y5 y6) (spec_l30Walk.l0 (k + 1) y0 y1 y2 y3 y4 y5 y6)) ∧ (∀ y0 y1 y2 y3 y4 y5 y6 y7 y8, LeO (spec_l30Walk.l1 k y0 y1 y2 y3 y4 y5 y6 y7 y8) (spec_l30Walk.l1 (k + 1) y0 y1 y2 y3 y4 y5 y6 y7 y8))
  | 0 => ⟨fun _ _ _ _ _ _ _ r h => by simp [spec_l30Walk.l0] at h, fun _ _ _ _ _ _ _ _ _ r h => by simp [spec_l30Walk.l1] at h⟩
  | k + 1 => by
    obtain ⟨ih0, ih1⟩ := spec_l30Walk.mono_l k
    refine ⟨?_, ?_⟩
    · intro y0 y1 y2 y3 y4 y5 y6
      unfold spec_l30Walk.l0
      repeat' first
      | (with_reducible exact ih0 _ _ _ _ _ _ _)
      | (with_reducible exact ih1 _ _ _ _ _ _ _ _ _)
      | (with_reducible exact spec_l30Rd_pick.mono _ _ _ _)
      | (with_reducible exact LeO.refl _)
      | (with_reducible exact LeO.none _)
      | (with_reducible refine LeO.ite ?_ ?_)
      | (with_reducible refine LeO.bind ?_ (fun _ => ?_))
      | exact ih0 _ _ _ _ _ _ _
      | exact ih1 _ _ _ _ _ _ _ _ _
      | exact spec_l30Rd_pick.mono _ _ _ _
      | exact LeO.none _
      | refine LeO.ite ?_ ?_
      | refine LeO.bind ?_ (fun _ => ?_)
    · intro y0 y1 y2 y3 y4 y5 y6 y7 y8
      unfold spec_l30Walk.l1
      repeat' first
      | (with_reducible exact ih0 _ _ _ _ _ _ _)
      | (with_reducible exact ih1 _ _ _ _ _ _ _ _ _)
      | (with_reducible exact spec_l30Rd_pick.mono _ _ _ _)
      | (with_reducible exact LeO.refl _)
      | (with_reducible exact LeO.none _)
      | (with_reducible refine LeO.ite ?_ ?_)
      | (with_reducible refine LeO.bind ?_ (fun _ => ?_))
      | exact ih0 _ _ _ _ _ _ _
      | exact ih1 _ _ _ _ _ _ _ _ _
      | exact spec_l30Rd_pick.mono _ _ _ _
      | exact LeO.none _
      | refine LeO.ite ?_ ?_
      | refine LeO.bind ?_ (fun _ => ?_)
theorem spec_l30Walk.mono : ∀ a0 a1 a2 a3 a4 a5 k, LeO (spec_l30Walk.f k a0 a1 a2 a3 a4 a5) (spec_l30Walk.f (k + 1) a0 a1 a2 a3 a4 a5) := by
  intro a0 a1 a2 a3 a4 a5 k
  obtain ⟨ih0, ih1⟩ := spec_l30Walk.mono_l k
  unfold spec_l30Walk.f
  repeat' first
      | (with_reducible exact ih0 _ _ _ _ _ _ _)
      | (with_reducible exact ih1 _ _ _ _ _ _ _ _ _)
      | (with_reducible exact spec_l30Rd_pick.mono _ _ _ _)
      | (with_reducible exact LeO.refl _)
      | (with_reducible exact LeO.none _)
      | (with_reducible refine LeO.ite ?_ ?_)
      | (with_reducible refine LeO.bind ?_ (fun _ => ?_))
      | exact ih0 _ _ _ _ _ _ _
      | exact ih1 _ _ _ _ _ _ _ _ _
      | exact spec_l30Rd_pick.mono _ _ _ _
      | exact LeO.none _
      | refine LeO.ite ?_ ?_
      | refine LeO.bind ?_ (fun _ => ?_)
set_option maxHeartbeats 8000000 in
set_option maxRecDepth 100000 in
theorem spec_l30Walk.calls (k : Nat) (g : Nat) (s0_0 : List Int) (s0_1 : Int) (a1_0 : Int) (A1_1 : Option Addr) (c1_1 : Nat) (l1_1 : List (S37)) (a2 : Int) (a3 : Int) (r1 : List Int) (r2 : Int) (w0 w : World) (hI : IsS106 w0 w g s0_0 s0_1) (hB : Below w0.heap.size w0 w) (hr1_1 : ∀ W_, KeepBut w W_ g none → Kd.C k37 W_ A1_1 l1_1.length l1_1) (hc1_1 : l1_1.length ≤ c1_1) (h : spec_l30Walk.f k s0_0 s0_1 a1_0 l1_1 a2 a3 = some (r1, r2)) :
    Calls Try.prog 89 #[.pointer (some ⟨g, 0, none⟩), .agg #[.int .i64 a1_0, .slice A1_1 l1_1.length c1_1], .int .i64 a2, .int .i64 a3] w fun e w' => ∃ v0_ : Value, e = .returned (v0_) ∧ Kd.R (Kd.int .i64) 3 w' w.heap.size (fun _ => True) v0_ r1 ∧ IsS106 w0 w' g s0_0 r2 ∧ Below w0.heap.size w0 w' ∧ KeepBut w w' g none := by
  have hu29 := Try.underlying29
  have HR1_1 := Aside0.mk hr1_1
  have HC1_1 := Aside0.mk hc1_1
  clear hr1_1 hc1_1
  have HI0 := Aside0.mk hI
  have HK := Aside0.mk (KeepBut.refl w g none)
  have HL := Aside0.mk hB.size
  clear hI
  have HW0 := Aside0.mk hB.size
  have HB := Aside0.mk hB
  clear hB
  have H : ((spec_l30Rd_pick.f k s0_0 s0_1 (wrap64 (a3 + 1))).bind fun bt564 => (spec_l30Walk.l0 k (([] : List Int)) a2 bt564.1 s0_0 bt564.2 a1_0 l1_1)) = some (r1, r2) := h
  clear h
  obtain ⟨y561, hy561⟩ : ∃ y_ : List Int, y_ = (([] : List Int)) := ⟨_, rfl⟩
  replace H : ((spec_l30Rd_pick.f k s0_0 s0_1 (wrap64 (a3 + 1))).bind fun bt564 => (spec_l30Walk.l0 k y561 a2 bt564.1 s0_0 bt564.2 a1_0 l1_1)) = some (r1, r2) := by first | (rw [hy561]; with_reducible exact H) | (have H2_ := (Option.bind_some _ _).symm.trans H; rw [hy561]; with_reducible exact H2_) | (have H2_ := (Option.bind_some _ _).symm.trans H; with_reducible exact H2_) | with_reducible exact H | (rw [hy561]; exact H) | exact H
  have Ny561 := Aside0.mk hy561
  clear hy561
  replace H := Option.bind_eq_some_iff.mp H
  obtain ⟨⟨t564, t565⟩, A50, H⟩ := H
  replace H : (spec_l30Walk.l0 k y561 a2 t564 s0_0 t565 a1_0 l1_1) = some (r1, r2) := H
  have A5 := Aside0.mk A50
  clear A50
  have H' := Aside0.mk H
  clear H
  go_enter Try.func89, Try.ntmps89
  go_wp2_with (first | ((with_reducible refine gate_dst (N := 5) rfl ?_); refine box_event ?hg (N := 5) ?hd (cs := #[.int .i64 a1_0, .slice A1_1 l1_1.length c1_1]) (t := 29) ?hr ?_; (case hd => rfl); (case hg => rfl); (case hr => first | (go_simp; done) | (go_simp; rfl)); intro gb560 hg w6 hbox hb; have n0_ := Aside0.mk (IsS106.below (ni106_89 HI0.out) hb); have n1_ := Aside0.mk (KeepBut.trans (nk_ HK.out) (KeepBut.of_below hb g none) (.inl rfl)); have n2_ := Aside0.mk (below_step (ng106_89 HB.out) hb); have n3_ := Aside0.mk (hbox); have n4_ := Aside0.mk ((by rw [hg]; exact (keep_size (w := w) (g := g) (row := none) (nk_ HK.out)) : w.heap.size ≤ gb560)); have n5_ := Aside0.mk ((Nat.le_trans HW0.out (by rw [hg]; exact (keep_size (w := w) (g := g) (row := none) (nk_ HK.out)) : w.heap.size ≤ gb560) : w0.heap.size ≤ gb560)); have n6_ := Aside0.mk ((by rw [hg]; exact Nat.ne_of_lt (IsS106.lt (show IsS106 w0 _ g s0_0 s0_1 from ni106_89 HI0.out)) : g ≠ gb560)); have n7_ := Aside0.mk ((by rw [hg]; exact Nat.ne_of_gt (IsS106.lt (show IsS106 w0 _ g s0_0 s0_1 from ni106_89 HI0.out)) : gb560 ≠ g)); clear HI0; clear HK; clear HB; have HI0 := n0_; have HK := n1_; have HB := n2_; have BK560 := n3_; have GW560 := n4_; have GE560 := n5_; have NB0_560 := n6_; have NB560_0 := n7_; clear n0_ n1_ n2_ n3_ n4_ n5_ n6_ n7_; clear hb hbox hg) | ((with_reducible refine gate_dst (N := 15) rfl ?_); refine Kd.R_lit (Kd.int .i64) _ 3 ?hg (N := 15) ?hd (xs := ([] : List Int)) (inner := []) (ok := fun _ => True) (okp := fun _ => True) ?hr ?hp (fun _ hk => hk) trivial (Below.refl _ _) (Nat.le_refl _) (by simp) ?_; (case hd => rfl); (case hg => rfl); (case hr => first | (go_simp; done) | (go_simp; rfl)); (case hp => exact (Reps.none _ _)); intro v562 w7 ho8 hb hg_ hnew_; clear hg_ hnew_; (first | rw [← Ny561.out] at ho8 | (simp only [Int.reduceToNat] at ho8; rw [← Ny561.out] at ho8)); have n0_ := Aside0.mk (Kd.R_lower ho8 (keep_size (w := w) (g := g) (row := none) (nk_ HK.out))); have n1_ := Aside0.mk (IsS106.below (ni106_89 HI0.out) hb); have n2_ := Aside0.mk (blk_below (g := gb560) (o := .cells #[.int .i64 a1_0, .slice A1_1 l1_1.length c1_1] 29 (0, 0)) (nb_ BK560.out) hb); have n3_ := Aside0.mk (KeepBut.trans (nk_ HK.out) (KeepBut.of_below hb g none) (.inl rfl)); have n4_ := Aside0.mk (below_step (ng106_89 HB.out) hb); clear HI0; clear BK560; clear HK; clear HB; have HO563 := n0_; have HI0 := n1_; have BK560 := n2_; have HK := n3_; have HB := n4_; clear n0_ n1_ n2_ n3_ n4_; clear hb ho8) | ((with_reducible refine gate_callee (f := 88) rfl ?_); refine goesL_ (some 20) rfl rfl Try.func88 (by kernel_rfl) rfl #[.pointer (some ⟨g, 0, none⟩), .int .i64 (wrap64 (a3 + 1))] rfl na_ ?_; (with_reducible refine (spec_l30Rd_pick.calls k g s0_0 s0_1 (wrap64 (a3 + 1)) t564 t565 w0 _ ?side1 ?side2 A5.out).mono ?_); (case side1 => repeat (first | (with_reducible first | exact HI0.out | apply IsS106.alloc | apply IsS106.drewN | apply IsS106.drew | apply IsS106.set_1 | refine IsS106.far ?_ NB0_560.out _) | exact HI0.out)); (case side2 => repeat (first | (with_reducible first | exact HB.out | apply below_alloc | apply pw_below_drewN | apply below_drew1 | refine below_set ?_ (IsS106.ge HI0.out) | refine below_set ?_ GE560.out) | exact HB.out)); rintro e w9 ⟨rfl, hi, hb, hk⟩; refine ⟨_, rfl, ?_⟩; have n0_ := Aside0.mk (KeepBut.blk hk (g' := gb560) (o := .cells #[.int .i64 a1_0, .slice A1_1 l1_1.length c1_1] 29 (0, 0)) (nb_ BK560.out) NB560_0.out (by simp)); have n1_ := Aside0.mk (Kd.R_mono (Kd.R_keep (IsS106.apart (show IsS106 w0 _ g s0_0 s0_1 from ni106_89 HI0.out) (nr_ HO563.out) (by decide)) hk (fun _ h => h.2)) (fun _ h => h.1)); have n2_ := Aside0.mk (KeepBut.trans (nk_ HK.out) hk (.inl rfl)); have n3_ := Aside0.mk (hb); have n4_ := Aside0.mk (hi); clear BK560; clear HO563; clear HK; clear HB; clear HI0; have BK560 := n0_; have HO563 := n1_; have HK := n2_; have HB := n3_; have HI0 := n4_; clear n0_ n1_ n2_ n3_ n4_; (try clear hb); (try clear hb2); (try clear hk); (try clear hi)))
  go_loopg [9, 10, 11] k (fun kq v9 v10 v11 w' => ∃ (x9_1 : List Int) (x10_1 : Int) (x11_1 : Int) (x1001_1 : Int), v10 = .int .i64 x10_1 ∧ v11 = .int .i64 x11_1 ∧ Aside0 (spec_l30Walk.l0 kq x9_1 x10_1 x11_1 s0_0 x1001_1 a1_0 l1_1 = some (r1, r2)) ∧ Aside0 (kq ≤ k) ∧ Aside0 (Kd.R (Kd.int .i64) 3 w' w.heap.size (fun _ => True) v9 x9_1) ∧ Aside0 (w'.heap[gb560]? = some (.cells #[.int .i64 a1_0, (.slice A1_1 l1_1.length c1_1)] 29 (0, 0))) ∧ Aside0 (IsS106 w0 w' g s0_0 x1001_1) ∧ Aside0 (KeepBut w w' g none) ∧ Aside0 (Below w0.heap.size w0 w'))
  case atStart => exact ⟨(y561), (a2), (t564), (t565), ns_, ns_, H', ⟨Nat.le_refl _⟩, ⟨by (with_reducible repeat (first | apply Kd.R_alloc | apply Kd.R_drewN | apply Kd.R_drew)); exact HO563.out⟩, ⟨by (with_reducible repeat (first | refine blk_drewN ?_ _ | refine blk_drew ?_ | refine blk_alloc ?_ _)); exact BK560.out⟩, ⟨ni106_89 HI0.out⟩, ⟨by repeat (first | (with_reducible first | exact HK.out | apply KeepBut.set_ | apply keep_drewN | apply keep_drew | apply keep_alloc | refine keep_far ?_ GW560.out _) | exact HK.out)⟩, ⟨by repeat (first | (with_reducible first | exact HB.out | apply below_alloc | apply pw_below_drewN | apply below_drew1 | refine below_set ?_ (IsS106.ge HI0.out) | refine below_set ?_ GE560.out) | exact HB.out)⟩⟩
  case round =>
   clear H'
   try clear c1
   try clear p2
   try clear p6
   try clear c8
   obtain ⟨x9_1, x10_1, x11_1, x1001_1, rfl, rfl, HA, HK1, HO_9, BK560, HI0, HK, HB⟩ := hrel
   cases gk with
   | zero => exact absurd HA.out (by simp [spec_l30Walk.l0])
   | succ k1 =>
    have H := HA.out
    clear HA
    simp only [spec_l30Walk.l0] at H
    by_cases c10 : x11_1 > 0
    ·rw [if_pos c10] at H
     have c10b0 : decide (0 < x11_1) = true := decide_eq_true c10
     clear c10
     obtain ⟨y566, hy566⟩ : ∃ y_ : List Int, y_ = (([] : List Int)) := ⟨_, rfl⟩
     replace H : (spec_l30Walk.l1 k1 x9_1 x10_1 x11_1 y566 0 s0_0 x1001_1 a1_0 l1_1) = some (r1, r2) := by first | (rw [hy566]; with_reducible exact H) | (have H2_ := (Option.bind_some _ _).symm.trans H; rw [hy566]; with_reducible exact H2_) | (have H2_ := (Option.bind_some _ _).symm.trans H; with_reducible exact H2_) | with_reducible exact H | (rw [hy566]; exact H) | exact H
     have Ny566 := Aside0.mk hy566
     clear hy566
     have H' := Aside0.mk H
     clear H
     go_wp2_with (first | ((with_reducible refine gate_dst (N := 25) rfl ?_); refine Kd.R_lit (Kd.int .i64) _ 3 ?hg (N := 25) ?hd (xs := ([] : List Int)) (inner := []) (ok := fun _ => True) (okp := fun _ => True) ?hr ?hp (fun _ hk => hk) trivial (Below.refl _ _) (Nat.le_refl _) (by simp) ?_; (case hd => rfl); (case hg => rfl); (case hr => first | (go_simp; done) | (go_simp; rfl)); (case hp => exact (Reps.none _ _)); intro v567 w11 ho12 hb hg_ hnew_; clear hg_ hnew_; (first | rw [← Ny566.out] at ho12 | (simp only [Int.reduceToNat] at ho12; rw [← Ny566.out] at ho12)); have n0_ := Aside0.mk (Kd.R_elder' (nr_ HO_9.out) (Kd.R_base ho12) hb); have n1_ := Aside0.mk (Kd.R_lower (Kd.R_new' ho12 (Kd.R_lt (nr_ HO_9.out))) (keep_size (w := w) (g := g) (row := none) (nk_ HK.out))); have n2_ := Aside0.mk (blk_below (g := gb560) (o := .cells #[.int .i64 a1_0, .slice A1_1 l1_1.length c1_1] 29 (0, 0)) (nb_ BK560.out) hb); have n3_ := Aside0.mk (IsS106.below (ni106_89 HI0.out) hb); have n4_ := Aside0.mk (KeepBut.trans (nk_ HK.out) (KeepBut.of_below hb g none) (.inl rfl)); have n5_ := Aside0.mk (below_step (ng106_89 HB.out) hb); clear HO_9; clear BK560; clear HI0; clear HK; clear HB; have HO_9 := n0_; have HO568 := n1_; have BK560 := n2_; have HI0 := n3_; have HK := n4_; have HB := n5_; clear n0_ n1_ n2_ n3_ n4_ n5_; clear hb ho12))
     go_loopg [12, 13] k1 (fun kq v12 v13 w' => ∃ (x12_2 : List Int) (x13_2 : Int), v13 = .int .i64 x13_2 ∧ Aside0 (spec_l30Walk.l1 kq x9_1 x10_1 x11_1 x12_2 x13_2 s0_0 x1001_1 a1_0 l1_1 = some (r1, r2)) ∧ Aside0 (kq ≤ k1) ∧ Aside0 (Kd.R (Kd.int .i64) 3 w' w.heap.size (fun k_ => some k_ ≠ (v12 : Value).ownBlock) u9 x9_1) ∧ Aside0 (Kd.R (Kd.int .i64) 3 w' w.heap.size (fun k_ => some k_ ≠ (u9 : Value).ownBlock) v12 x12_2) ∧ Aside0 (w'.heap[gb560]? = some (.cells #[.int .i64 a1_0, (.slice A1_1 l1_1.length c1_1)] 29 (0, 0))) ∧ Aside0 (IsS106 w0 w' g s0_0 x1001_1) ∧ Aside0 (KeepBut w w' g none) ∧ Aside0 (Below w0.heap.size w0 w'))
     case atStart => exact ⟨(y566), (0), ns_, H', ⟨Nat.le_refl _⟩, ⟨by (with_reducible repeat (first | apply Kd.R_alloc | apply Kd.R_drewN | apply Kd.R_drew)); exact Kd.R_mono HO_9.out (fun _ hk => by first | exact hk.2 | trivial | simp_all)⟩, ⟨by (with_reducible repeat (first | apply Kd.R_alloc | apply Kd.R_drewN | apply Kd.R_drew)); exact Kd.R_mono HO568.out (fun _ hk => by first | exact hk.2 | trivial | simp_all)⟩, ⟨by (with_reducible repeat (first | refine blk_drewN ?_ _ | refine blk_drew ?_ | refine blk_alloc ?_ _)); exact BK560.out⟩, ⟨ni106_89 HI0.out⟩, ⟨by repeat (first | (with_reducible first | exact HK.out | apply KeepBut.set_ | apply keep_drewN | apply keep_drew | apply keep_alloc | refine keep_far ?_ GW560.out _) | exact HK.out)⟩, ⟨by repeat (first | (with_reducible first | exact HB.out | apply below_alloc | apply pw_below_drewN | apply below_drew1 | refine below_set ?_ (IsS106.ge HI0.out) | refine below_set ?_ GE560.out) | exact HB.out)⟩⟩
     case round =>
      clear H'
      try clear c1
      try clear p2
      try clear p6
      try clear c8
      try clear c10
      try clear c10b0
      try clear p2
      try clear p6
      obtain ⟨x12_2, x13_2, rfl, HA, HK2, HO_9, HO_12, BK560, HI0, HK, HB⟩ := hrel
      cases gk with
      | zero => exact absurd HA.out (by simp [spec_l30Walk.l1])
      | succ k2 =>
       have H := HA.out
       clear HA
       simp only [spec_l30Walk.l1] at H
       by_cases c13 : x13_2 < (l1_1.length : Int)
       ·rw [if_pos c13] at H
        have c13b0 : decide (x13_2 < (l1_1.length : Int)) = true := decide_eq_true c13
        clear c13
        by_cases c14 : 0 ≤ x13_2
        ·rw [if_pos c14] at H
         have c14b0 : decide (0 ≤ x13_2) = true := decide_eq_true c14
         clear c14
         by_cases c15 : ((rd_T37 l1_1 x13_2).f0) = x10_1
         ·rw [if_pos c15] at H
          have c15b0 : (((rd_T37 l1_1 x13_2).f0) == x10_1) = true := beq_iff_eq.mpr c15
          have c15b1 : (((rd_T37 l1_1 x13_2).f0) != x10_1) = false := bne_eq_false_iff_eq.mpr c15
          clear c15
          by_cases c16 : x12_2.length < 17592186044416
          ·rw [if_pos c16] at H
           have LMc16 := Aside0.mk c16
           clear c16
           obtain ⟨y570, hy570⟩ : ∃ y_ : List Int, y_ = (x12_2 ++ [x13_2]) := ⟨_, rfl⟩
           replace H : (spec_l30Walk.l1 k2 x9_1 x10_1 x11_1 y570 (wrap64 (x13_2 + 1)) s0_0 x1001_1 a1_0 l1_1) = some (r1, r2) := by first | (rw [hy570]; with_reducible exact H) | (have H2_ := (Option.bind_some _ _).symm.trans H; rw [hy570]; with_reducible exact H2_) | (have H2_ := (Option.bind_some _ _).symm.trans H; with_reducible exact H2_) | with_reducible exact H | (rw [hy570]; exact H) | exact H
           have Ny570 := Aside0.mk hy570
           clear hy570
           have H' := Aside0.mk H
           clear H
           have hnb17 := NB560_0.out
           have hnc17 := NB0_560.out
           have hcz18_0 : wr.cell? ⟨gb560, 0, none⟩ = some (.int .i64 a1_0) := (blk_cell BK560.out 0).trans rfl
           have hcz18_1 : wr.cell? ⟨gb560, 1, none⟩ = some (.slice A1_1 l1_1.length c1_1) := (blk_cell BK560.out 1).trans rfl
           have hfz18_0 := blk_frozen BK560.out 0
           have hfz18_1 := blk_frozen BK560.out 1
           have p569 : 0 ≤ (x13_2 : Int) := of_decide_eq_true nx_
           have q569 : x13_2 < (l1_1.length : Int) := of_decide_eq_true nx_
           obtain ⟨ad569, e569, hx569_0, hx569_1, hx569_2, hx569_3, hx569_4⟩ := at_T37 (Kd.C_foot_now HR1_1.out HK.out) x13_2 p569 q569
           cases e569
           replace p569 := eq_true p569
           replace q569 := eq_true q569
           go_wp2_with (first | ((with_reducible refine gate_builtin (b := .append) (xs := #[.tmp 41, .tmp 43]) rfl ?_); at_builtin; refine Kd.R_append (Kd.int .i64) w.heap.size rfl (.tmp 41) (.tmp 43) 41 3 (.int .i64 0) 8 rfl Try.underlying41 info3 rfl (by decide) (by omega) u12 x12_2 x13_2 [.int .i64 x13_2] (fun k_ => some k_ ≠ (u9 : Value).ownBlock) (fun _ => False) rfl rfl ?aP (fun _ hk => hk.elim) ?aF ?aO (Below.refl _ _) ?aS ?aL ?_; (case aP => exact rfl); (case aF => exact (fun k_ hk => Kd.fresh' (Kd.R_lt (nr_ HO_9.out)) k_ hk)); (case aO => exact (nr_ HO_12.out)); (case aS => exact (keep_size (w := w) (g := g) (row := none) (nk_ HK.out))); (case aL => have := LMc16.out; omega); intro v571 w19 ho hb hg hat; rw [← Ny570.out] at ho; have n0_ := Aside0.mk (Kd.R_after (ok := (fun _ => True)) (by (with_reducible repeat (first | apply Kd.R_alloc | apply Kd.R_drewN | apply Kd.R_drew)); exact Kd.R_mono HO_9.out (fun _ hk => by first | exact ⟨trivial, hk⟩ | trivial | simp_all)) hg hat); have n1_ := Aside0.mk (blk_grown (g := gb560) (o := .cells #[.int .i64 a1_0, .slice (some ad569) l1_1.length c1_1] 29 (0, 0)) (nb_ BK560.out) hg (Kd.R_ne HO_12.out BK560.out (by decide))); have n2_ := Aside0.mk (IsS106.grown (show IsS106 w0 _ g s0_0 x1001_1 from ni106_89 HI0.out) hg (IsS106.own_ne HI0.out HO_12.out (by decide))); have n3_ := Aside0.mk (below_weaken (ng106_89 HB.out) HL.out hb); have n4_ := Aside0.mk (KeepBut.trans (nk_ HK.out) (KeepBut.of_grown hg g) (Kd.R_base2 HO_12.out)); have n5_ := Aside0.mk (ho); clear HO_9; clear BK560; clear HI0; clear HB; clear HK; clear HO_12; have HO_9 := n0_; have BK560 := n1_; have HI0 := n2_; have HB := n3_; have HK := n4_; have HO572 := n5_; clear n0_ n1_ n2_ n3_ n4_ n5_; clear ho hb hg hat))
           go_roundg k2
           case measure => have := HK1.out; have := HK2.out; omega
           case rel => exact ⟨(y570), (wrap64 (x13_2 + 1)), ns_, H', ⟨by have := HK1.out; have := HK2.out; omega⟩, ⟨by (with_reducible repeat (first | apply Kd.R_alloc | apply Kd.R_drewN | apply Kd.R_drew)); exact Kd.R_mono HO_9.out (fun _ hk => by first | exact hk.2 | trivial | simp_all)⟩, ⟨by (with_reducible repeat (first | apply Kd.R_alloc | apply Kd.R_drewN | apply Kd.R_drew)); exact HO572.out⟩, ⟨by (with_reducible repeat (first | refine blk_drewN ?_ _ | refine blk_drew ?_ | refine blk_alloc ?_ _)); exact BK560.out⟩, ⟨ni106_89 HI0.out⟩, ⟨by repeat (first | (with_reducible first | exact HK.out | apply KeepBut.set_ | apply keep_drewN | apply keep_drew | apply keep_alloc | refine keep_far ?_ GW560.out _) | exact HK.out)⟩, ⟨by repeat (first | (with_reducible first | exact HB.out | apply below_alloc | apply pw_below_drewN | apply below_drew1 | refine below_set ?_ (IsS106.ge HI0.out) | refine below_set ?_ GE560.out) | exact HB.out)⟩⟩
          ·rw [if_neg c16] at H
           exact absurd H (by simp)
         ·rw [if_neg c15] at H
          have c15b0 : (((rd_T37 l1_1 x13_2).f0) == x10_1) = false := beq_eq_false_iff_ne.mpr c15
          have c15b1 : (((rd_T37 l1_1 x13_2).f0) != x10_1) = true := bne_iff_ne.mpr c15
          have H' := Aside0.mk H
          clear H
          have hnb20 := NB560_0.out
          have hnc20 := NB0_560.out
          have hcz21_0 : wr.cell? ⟨gb560, 0, none⟩ = some (.int .i64 a1_0) := (blk_cell BK560.out 0).trans rfl
          have hcz21_1 : wr.cell? ⟨gb560, 1, none⟩ = some (.slice A1_1 l1_1.length c1_1) := (blk_cell BK560.out 1).trans rfl
          have hfz21_0 := blk_frozen BK560.out 0
          have hfz21_1 := blk_frozen BK560.out 1
          have p569 : 0 ≤ (x13_2 : Int) := of_decide_eq_true nx_
          have q569 : x13_2 < (l1_1.length : Int) := of_decide_eq_true nx_
          obtain ⟨ad569, e569, hx569_0, hx569_1, hx569_2, hx569_3, hx569_4⟩ := at_T37 (Kd.C_foot_now HR1_1.out HK.out) x13_2 p569 q569
          cases e569
          replace p569 := eq_true p569
          replace q569 := eq_true q569
          go_wp2
          go_roundg k2
          case measure => have := HK1.out; have := HK2.out; omega
          case rel => exact ⟨(x12_2), (wrap64 (x13_2 + 1)), ns_, H', ⟨by have := HK1.out; have := HK2.out; omega⟩, ⟨by (with_reducible repeat (first | apply Kd.R_alloc | apply Kd.R_drewN | apply Kd.R_drew)); exact HO_9.out⟩, ⟨by (with_reducible repeat (first | apply Kd.R_alloc | apply Kd.R_drewN | apply Kd.R_drew)); exact HO_12.out⟩, ⟨by (with_reducible repeat (first | refine blk_drewN ?_ _ | refine blk_drew ?_ | refine blk_alloc ?_ _)); exact BK560.out⟩, ⟨ni106_89 HI0.out⟩, ⟨by repeat (first | (with_reducible first | exact HK.out | apply KeepBut.set_ | apply keep_drewN | apply keep_drew | apply keep_alloc | refine keep_far ?_ GW560.out _) | exact HK.out)⟩, ⟨by repeat (first | (with_reducible first | exact HB.out | apply below_alloc | apply pw_below_drewN | apply below_drew1 | refine below_set ?_ (IsS106.ge HI0.out) | refine below_set ?_ GE560.out) | exact HB.out)⟩⟩
        ·rw [if_neg c14] at H
         exact absurd H (by simp)
       ·rw [if_neg c13] at H
        have c13b0 : decide (x13_2 < (l1_1.length : Int)) = false := decide_eq_false c13
        clear c13
        by_cases c22 : (x12_2.length : Int) = 0
        ·rw [if_pos c22] at H
         have c22b0 : ((x12_2.length : Int) == 0) = true := beq_iff_eq.mpr c22
         have c22b1 : ((x12_2.length : Int) != 0) = false := bne_eq_false_iff_eq.mpr c22
         clear c22
         simp only [Option.some.injEq, Prod.mk.injEq] at H
         obtain ⟨rfl, rfl⟩ := H
         have hnb23 := NB560_0.out
         have hnc23 := NB0_560.out
         have hcz24_0 : wr.cell? ⟨gb560, 0, none⟩ = some (.int .i64 a1_0) := (blk_cell BK560.out 0).trans rfl
         have hcz24_1 : wr.cell? ⟨gb560, 1, none⟩ = some (.slice A1_1 l1_1.length c1_1) := (blk_cell BK560.out 1).trans rfl
         have hfz24_0 := blk_frozen BK560.out 0
         have hfz24_1 := blk_frozen BK560.out 1
         obtain ⟨Ao25, co25, eo25⟩ := Kd.R_slice HO_12.out
         subst eo25
         go_wp2
         go_ret
         exact ⟨_, by first | rfl | (simp [errW_none, errW_some] <;> rfl) | (simp [*, errW_none, errW_some] <;> rfl), by (with_reducible repeat (first | apply Kd.R_alloc | apply Kd.R_drewN | apply Kd.R_drew)); exact Kd.R_mono HO_9.out (fun _ hk => trivial), ni106_89 HI0.out, by repeat (first | (with_reducible first | exact HB.out | apply below_alloc | apply pw_below_drewN | apply below_drew1 | refine below_set ?_ (IsS106.ge HI0.out) | refine below_set ?_ GE560.out) | exact HB.out), by repeat (first | (with_reducible first | exact HK.out | apply KeepBut.set_ | apply keep_drewN | apply keep_drew | apply keep_alloc | refine keep_far ?_ GW560.out _) | exact HK.out)⟩
        ·rw [if_neg c22] at H
         have c22b0 : ((x12_2.length : Int) == 0) = false := beq_eq_false_iff_ne.mpr c22
         have c22b1 : ((x12_2.length : Int) != 0) = true := bne_iff_ne.mpr c22
         have c22b2 : ¬ (x12_2 = []) := fun h_ => c22 (by rw [h_]; rfl)
         replace H := Option.bind_eq_some_iff.mp H
         obtain ⟨⟨t573, t574⟩, A260, H⟩ := H
         replace H : (if 0 ≤ t573 then (if t573 < (x12_2.length : Int) then (if x9_1.length < 17592186044416 then (if 0 ≤ (rd x12_2 t573) then (if (rd x12_2 t573) < (l1_1.length : Int) then (spec_l30Walk.l0 k2 (x9_1 ++ [rd x12_2 t573]) ((rd_T37 l1_1 (rd x12_2 t573)).f1) (wrap64 (x11_1 - 1)) s0_0 t574 a1_0 l1_1) else (none)) else (none)) else (none)) else (none)) else (none)) = some (r1, r2) := H
         have A26 := Aside0.mk A260
         clear A260
         by_cases c27 : 0 ≤ t573
         ·rw [if_pos c27] at H
          have c27b0 : decide (0 ≤ t573) = true := decide_eq_true c27
          clear c27
          by_cases c28 : t573 < (x12_2.length : Int)
          ·rw [if_pos c28] at H
           have c28b0 : decide (t573 < (x12_2.length : Int)) = true := decide_eq_true c28
           clear c28
           by_cases c29 : x9_1.length < 17592186044416
           ·rw [if_pos c29] at H
            have LMc29 := Aside0.mk c29
            clear c29
            obtain ⟨y576, hy576⟩ : ∃ y_ : List Int, y_ = (x9_1 ++ [rd x12_2 t573]) := ⟨_, rfl⟩
            replace H : (if 0 ≤ (rd x12_2 t573) then (if (rd x12_2 t573) < (l1_1.length : Int) then (spec_l30Walk.l0 k2 y576 ((rd_T37 l1_1 (rd x12_2 t573)).f1) (wrap64 (x11_1 - 1)) s0_0 t574 a1_0 l1_1) else (none)) else (none)) = some (r1, r2) := by first | (rw [hy576]; with_reducible exact H) | (have H2_ := (Option.bind_some _ _).symm.trans H; rw [hy576]; with_reducible exact H2_) | (have H2_ := (Option.bind_some _ _).symm.trans H; with_reducible exact H2_) | with_reducible exact H | (rw [hy576]; exact H) | exact H
            have Ny576 := Aside0.mk hy576
            clear hy576
            by_cases c30 : 0 ≤ (rd x12_2 t573)
            ·rw [if_pos c30] at H
             have c30b0 : decide (0 ≤ (rd x12_2 t573)) = true := decide_eq_true c30
             clear c30
             by_cases c31 : (rd x12_2 t573) < (l1_1.length : Int)
             ·rw [if_pos c31] at H
              have c31b0 : decide ((rd x12_2 t573) < (l1_1.length : Int)) = true := decide_eq_true c31
              clear c31
              have H' := Aside0.mk H
              clear H
              have hnb32 := NB560_0.out
              have hnc32 := NB0_560.out
              have hcz33_0 : wr.cell? ⟨gb560, 0, none⟩ = some (.int .i64 a1_0) := (blk_cell BK560.out 0).trans rfl
              have hcz33_1 : wr.cell? ⟨gb560, 1, none⟩ = some (.slice A1_1 l1_1.length c1_1) := (blk_cell BK560.out 1).trans rfl
              have hfz33_0 := blk_frozen BK560.out 0
              have hfz33_1 := blk_frozen BK560.out 1
              obtain ⟨Ao34, co34, eo34⟩ := Kd.R_slice HO_12.out
              subst eo34
              go_wp2_with (first | ((with_reducible refine gate_callee (f := 88) rfl ?_); refine goesL_ (some 52) rfl rfl Try.func88 (by kernel_rfl) rfl #[.pointer (some ⟨g, 0, none⟩), .int .i64 (x12_2.length : Int)] rfl na_ ?_; (with_reducible refine (spec_l30Rd_pick.calls k2 g s0_0 x1001_1 (x12_2.length : Int) t573 t574 w0 _ ?side1 ?side2 A26.out).mono ?_); (case side1 => repeat (first | (with_reducible first | exact HI0.out | apply IsS106.alloc | apply IsS106.drewN | apply IsS106.drew | apply IsS106.set_1 | refine IsS106.far ?_ NB0_560.out _) | exact HI0.out)); (case side2 => repeat (first | (with_reducible first | exact HB.out | apply below_alloc | apply pw_below_drewN | apply below_drew1 | refine below_set ?_ (IsS106.ge HI0.out) | refine below_set ?_ GE560.out) | exact HB.out)); rintro e w35 ⟨rfl, hi, hb, hk⟩; refine ⟨_, rfl, ?_⟩; have n0_ := Aside0.mk (Kd.R_mono (Kd.R_keep (IsS106.apart (show IsS106 w0 _ g s0_0 x1001_1 from ni106_89 HI0.out) (nr_ HO_9.out) (by decide)) hk (fun _ h => h.2)) (fun _ h => h.1)); have n1_ := Aside0.mk (Kd.R_mono (Kd.R_keep (IsS106.apart (show IsS106 w0 _ g s0_0 x1001_1 from ni106_89 HI0.out) (nr_ HO_12.out) (by decide)) hk (fun _ h => h.2)) (fun _ h => h.1)); have n2_ := Aside0.mk (KeepBut.blk hk (g' := gb560) (o := .cells #[.int .i64 a1_0, .slice A1_1 l1_1.length c1_1] 29 (0, 0)) (nb_ BK560.out) NB560_0.out (by simp)); have n3_ := Aside0.mk (KeepBut.trans (nk_ HK.out) hk (.inl rfl)); have n4_ := Aside0.mk (hb); have n5_ := Aside0.mk (hi); clear HO_9; clear HO_12; clear BK560; clear HK; clear HB; clear HI0; have HO_9 := n0_; have HO_12 := n1_; have BK560 := n2_; have HK := n3_; have HB := n4_; have HI0 := n5_; clear n0_ n1_ n2_ n3_ n4_ n5_; (try clear hb); (try clear hb2); (try clear hk); (try clear hi); have p575 : 0 ≤ (t573 : Int) := of_decide_eq_true nx_; have q575 : t573 < (x12_2.length : Int) := of_decide_eq_true nx_; obtain ⟨ad575, e575, hx575_0⟩ := Kd.at_int (Kd.R_reads' HO_12.out).2.2 t573 p575 q575; cases e575; replace p575 := eq_true p575; replace q575 := eq_true q575) | ((with_reducible refine gate_builtin (b := .append) (xs := #[.tmp 55, .tmp 57]) rfl ?_); at_builtin; refine Kd.R_append (Kd.int .i64) w.heap.size rfl (.tmp 55) (.tmp 57) 41 3 (.int .i64 0) 8 rfl Try.underlying41 info3 rfl (by decide) (by omega) u9 x9_1 (rd x12_2 t573) [.int .i64 (rd x12_2 t573)] (fun k_ => some k_ ≠ (.slice (some ad575) x12_2.length co34 : Value).ownBlock) (fun _ => False) rfl rfl ?aP (fun _ hk => hk.elim) ?aF ?aO (Below.refl _ _) ?aS ?aL ?_; (case aP => exact rfl); (case aF => exact (fun k_ hk => Kd.fresh' (Kd.R_lt (nr_ HO_12.out)) k_ hk)); (case aO => exact (nr_ HO_9.out)); (case aS => exact (keep_size (w := w) (g := g) (row := none) (nk_ HK.out))); (case aL => have := LMc29.out; omega); intro v577 w36 ho hb hg hat; rw [← Ny576.out] at ho; have n0_ := Aside0.mk (Kd.R_after (ok := (fun _ => True)) (by (with_reducible repeat (first | apply Kd.R_alloc | apply Kd.R_drewN | apply Kd.R_drew)); exact Kd.R_mono HO_12.out (fun _ hk => by first | exact ⟨trivial, hk⟩ | trivial | simp_all)) hg hat); have n1_ := Aside0.mk (blk_grown (g := gb560) (o := .cells #[.int .i64 a1_0, .slice A1_1 l1_1.length c1_1] 29 (0, 0)) (nb_ BK560.out) hg (Kd.R_ne HO_9.out BK560.out (by decide))); have n2_ := Aside0.mk (IsS106.grown (show IsS106 w0 _ g s0_0 t574 from ni106_89 HI0.out) hg (IsS106.own_ne HI0.out HO_9.out (by decide))); have n3_ := Aside0.mk (below_weaken (ng106_89 HB.out) HL.out hb); have n4_ := Aside0.mk (KeepBut.trans (nk_ HK.out) (KeepBut.of_grown hg g) (Kd.R_base2 HO_9.out)); have n5_ := Aside0.mk (ho); clear HO_12; clear BK560; clear HI0; clear HB; clear HK; clear HO_9; have HO_12 := n0_; have BK560 := n1_; have HI0 := n2_; have HB := n3_; have HK := n4_; have HO578 := n5_; clear n0_ n1_ n2_ n3_ n4_ n5_; clear ho hb hg hat; have hcz37_0 : w36.cell? ⟨gb560, 0, none⟩ = some (.int .i64 a1_0) := (blk_cell BK560.out 0).trans rfl; have hcz37_1 : w36.cell? ⟨gb560, 1, none⟩ = some (.slice A1_1 l1_1.length c1_1) := (blk_cell BK560.out 1).trans rfl; have hfz37_0 := blk_frozen BK560.out 0; have hfz37_1 := blk_frozen BK560.out 1; have p579 : 0 ≤ ((rd x12_2 t573) : Int) := of_decide_eq_true nx_; have q579 : (rd x12_2 t573) < (l1_1.length : Int) := of_decide_eq_true nx_; obtain ⟨ad579, e579, hx579_0, hx579_1, hx579_2, hx579_3, hx579_4⟩ := at_T37 (Kd.C_foot_now HR1_1.out HK.out) (rd x12_2 t573) p579 q579; cases e579; replace p579 := eq_true p579; replace q579 := eq_true q579))
              go_roundg k2
              case measure => have := HK1.out; have := HK2.out; omega
              case rel => exact ⟨(y576), ((rd_T37 l1_1 (rd x12_2 t573)).f1), (wrap64 (x11_1 - 1)), (t574), ns_, ns_, H', ⟨by have := HK1.out; have := HK2.out; omega⟩, ⟨by (with_reducible repeat (first | apply Kd.R_alloc | apply Kd.R_drewN | apply Kd.R_drew)); exact Kd.R_mono HO578.out (fun _ hk => trivial)⟩, ⟨by (with_reducible repeat (first | refine blk_drewN ?_ _ | refine blk_drew ?_ | refine blk_alloc ?_ _)); exact BK560.out⟩, ⟨ni106_89 HI0.out⟩, ⟨by repeat (first | (with_reducible first | exact HK.out | apply KeepBut.set_ | apply keep_drewN | apply keep_drew | apply keep_alloc | refine keep_far ?_ GW560.out _) | exact HK.out)⟩, ⟨by repeat (first | (with_reducible first | exact HB.out | apply below_alloc | apply pw_below_drewN | apply below_drew1 | refine below_set ?_ (IsS106.ge HI0.out) | refine below_set ?_ GE560.out) | exact HB.out)⟩⟩
             ·rw [if_neg c31] at H
              exact absurd H (by simp)
            ·rw [if_neg c30] at H
             exact absurd H (by simp)
           ·rw [if_neg c29] at H
            exact absurd H (by simp)
          ·rw [if_neg c28] at H
           exact absurd H (by simp)
         ·rw [if_neg c27] at H
          exact absurd H (by simp)
    ·rw [if_neg c10] at H
     have c10b0 : decide (0 < x11_1) = false := decide_eq_false c10
     clear c10
     simp only [Option.some.injEq, Prod.mk.injEq] at H
     obtain ⟨rfl, rfl⟩ := H
     go_wp2
     go_ret
     exact ⟨_, by first | rfl | (simp [errW_none, errW_some] <;> rfl) | (simp [*, errW_none, errW_some] <;> rfl), by (with_reducible repeat (first | apply Kd.R_alloc | apply Kd.R_drewN | apply Kd.R_drew)); exact HO_9.out, ni106_89 HI0.out, by repeat (first | (with_reducible first | exact HB.out | apply below_alloc | apply pw_below_drewN | apply below_drew1 | refine below_set ?_ (IsS106.ge HI0.out) | refine below_set ?_ GE560.out) | exact HB.out), by repeat (first | (with_reducible first | exact HK.out | apply KeepBut.set_ | apply keep_drewN | apply keep_drew | apply keep_alloc | refine keep_far ?_ GW560.out _) | exact HK.out)⟩

end Go.Proofs.Ytpjmkghmjpbldaa.Print
