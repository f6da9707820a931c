-- Made by this session's own program (wip/patch_print.py, over the kit's print). Lean checks it.
import Derived.Test.YtpjmkghmjpbldaaPrint0
import Derived.Test.YtpjmkghmjpbldaaPrintF88
namespace Go.Proofs.Ytpjmkghmjpbldaa.Print
open Go.RowKit Go.Proofs.YtpjmkghmjpbldaaW.PrintWords Go.Proofs.YtpjmkghmjpbldaaW.PrintLast Go.Proofs.YtpjmkghmjpbldaaW.PrintMore Go.Proofs.YtpjmkghmjpbldaaX
attribute [local go_sem] max2_int min2_int max_two min_two max_three min_three max_four min_four   -- for this text's walks alone
set_option linter.unusedVariables false
set_option linter.unusedSimpArgs false

theorem ng106_89 {B : Nat} {w W W' : World} (h : Below B w W) (e : Below B w W → Below B w W' := by intro h_; repeat (first | (with_reducible first | exact h_ | apply below_alloc | apply pw_below_drewN | apply below_drew1 | refine below_set ?_ (IsS106.ge (Aside0.out (by with_reducible assumption))) | refine below_set ?_ (Aside0.out (by with_reducible assumption))) | exact h_)) : Below B w W' := e h
theorem ni106_89 {p q : Prop} (h : p) (e : p → q := by intro h_; repeat (first | (with_reducible first | exact h_ | apply IsS106.alloc | apply IsS106.drewN | apply IsS106.drew | apply IsS106.set_1 | refine IsS106.far ?_ (Aside0.out (by with_reducible assumption)) _) | exact h_)) : q := e h
/-! ### spec_l30Walk: function 89 -/
mutual
def spec_l30Walk.l0 : Nat → List Int → Int → Int → List Int → Int → Int → List (S37) → Option (List Int × Int)
  | 0, _, _, _, _, _, _, _ => none
  | k + 1, x9, x10, x11, x1000, x1001, x572000, x572001 => if x11 > 0 then (spec_l30Walk.l1 k x9 x10 x11 (([] : List Int)) 0 x1000 x1001 x572000 x572001) else (some (x9, x1001))
def spec_l30Walk.l1 : Nat → List Int → Int → Int → List Int → Int → List Int → Int → Int → List (S37) → Option (List Int × Int)
  | 0, _, _, _, _, _, _, _, _, _ => none
  | k + 1, x9, x10, x11, x12, x13, x1000, x1001, x572000, x572001 => if x13 < (x572001.length : Int) then (if 0 ≤ x13 then (if ((rd_T37 x572001 x13).f0) = x10 then (if x12.length < 17592186044416 then (spec_l30Walk.l1 k x9 x10 x11 (x12 ++ [x13]) (wrap64 (x13 + 1)) x1000 x1001 x572000 x572001) else (none)) else (spec_l30Walk.l1 k x9 x10 x11 x12 (wrap64 (x13 + 1)) x1000 x1001 x572000 x572001)) else (none)) else (if (x12.length : Int) = 0 then (some (x9, x1001)) else ((spec_l30Rd_pick.f k x1000 x1001 (x12.length : Int)).bind fun bt584 => (if 0 ≤ bt584.1 then (if bt584.1 < (x12.length : Int) then (if x9.length < 17592186044416 then (if 0 ≤ (rd x12 bt584.1) then (if (rd x12 bt584.1) < (x572001.length : Int) then (spec_l30Walk.l0 k (x9 ++ [rd x12 bt584.1]) ((rd_T37 x572001 (rd x12 bt584.1)).f1) (wrap64 (x11 - 1)) x1000 bt584.2 x572000 x572001) else (none)) else (none)) else (none)) else (none)) else (none))))
end
def spec_l30Walk.f (k : Nat) (s0_0 : List Int) (s0_1 : Int) (a1_0 : Int) (l1_1 : List (S37)) (a2 : Int) (a3 : Int) : Option (List Int × Int) := (spec_l30Rd_pick.f k s0_0 s0_1 (wrap64 (a3 + 1))).bind fun bt575 => (spec_l30Walk.l0 k (([] : List Int)) a2 bt575.1 s0_0 bt575.2 a1_0 l1_1)
theorem spec_l30Walk.mono_l : ∀ k, (∀ y0 y1 y2 y3 y4 y5 y6, LeO (spec_l30Walk.l0 k y0 y1 y2 y3 y4 y5 y6) (spec_l30Walk.l0 (k + 1) y0 y1 y2 y3 y4 y5 y6)) ∧ (∀ y0 y1 y2 y3 y4 y5 y6 y7 y8, LeO (spec_l30Walk.l1 k y0 y1 y2 y3 y4 y5 y6 y7 y8) (spec_l30Walk.l1 (k + 1) y0 y1 y2 y3 y4 y5 y6 y7 y8))
  | 0 => ⟨fun _ _ _ _ _ _ _ r h => by simp [spec_l30Walk.l0] at h, fun _ _ _ _ _ _ _ _ _ r h => by simp [spec_l30Walk.l1] at h⟩
  | k + 1 => by
    obtain ⟨ih0, ih1⟩ := spec_l30Walk.mono_l k
    refine ⟨?_, ?_⟩
    · intro y0 y1 y2 y3 y4 y5 y6
      unfold spec_l30Walk.l0
      repeat' first | (with_reducible first | exact ih0 _ _ _ _ _ _ _ | exact ih1 _ _ _ _ _ _ _ _ _ | exact spec_l30Rd_pick.mono _ _ _ _ | exact LeO.refl _ | exact LeO.none _ | refine LeO.ite ?_ ?_ | refine LeO.bind ?_ (fun _ => ?_)) | exact ih0 _ _ _ _ _ _ _ | exact ih1 _ _ _ _ _ _ _ _ _ | exact spec_l30Rd_pick.mono _ _ _ _ | exact LeO.none _ | refine LeO.ite ?_ ?_ | refine LeO.bind ?_ (fun _ => ?_)
    · intro y0 y1 y2 y3 y4 y5 y6 y7 y8
      unfold spec_l30Walk.l1
      repeat' first | (with_reducible first | exact ih0 _ _ _ _ _ _ _ | exact ih1 _ _ _ _ _ _ _ _ _ | exact spec_l30Rd_pick.mono _ _ _ _ | exact LeO.refl _ | exact LeO.none _ | refine LeO.ite ?_ ?_ | refine LeO.bind ?_ (fun _ => ?_)) | exact ih0 _ _ _ _ _ _ _ | exact ih1 _ _ _ _ _ _ _ _ _ | exact spec_l30Rd_pick.mono _ _ _ _ | exact LeO.none _ | refine LeO.ite ?_ ?_ | refine LeO.bind ?_ (fun _ => ?_)
theorem spec_l30Walk.mono : ∀ a0 a1 a2 a3 a4 a5 k, LeO (spec_l30Walk.f k a0 a1 a2 a3 a4 a5) (spec_l30Walk.f (k + 1) a0 a1 a2 a3 a4 a5) := by
  intro a0 a1 a2 a3 a4 a5 k
  obtain ⟨ih0, ih1⟩ := spec_l30Walk.mono_l k
  unfold spec_l30Walk.f
  repeat' first | (with_reducible first | exact ih0 _ _ _ _ _ _ _ | exact ih1 _ _ _ _ _ _ _ _ _ | exact spec_l30Rd_pick.mono _ _ _ _ | exact LeO.refl _ | exact LeO.none _ | refine LeO.ite ?_ ?_ | refine LeO.bind ?_ (fun _ => ?_)) | exact ih0 _ _ _ _ _ _ _ | exact ih1 _ _ _ _ _ _ _ _ _ | exact spec_l30Rd_pick.mono _ _ _ _ | exact LeO.none _ | refine LeO.ite ?_ ?_ | refine LeO.bind ?_ (fun _ => ?_)
set_option maxHeartbeats 200000000 in
set_option maxRecDepth 100000 in
theorem spec_l30Walk.calls (k : Nat) (g : Nat) (s0_0 : List Int) (s0_1 : Int) (a1_0 : Int) (A1_1 : Option Addr) (c1_1 : Nat) (l1_1 : List (S37)) (a2 : Int) (a3 : Int) (r1 : List Int) (r2 : Int) (w0 w : World) (hI : IsS106 w0 w g s0_0 s0_1) (hB : Below w0.heap.size w0 w) (hr1_1 : ∀ W_, KeepBut w W_ g none → Kd.C k37 W_ A1_1 l1_1.length l1_1) (hc1_1 : l1_1.length ≤ c1_1) (h : spec_l30Walk.f k s0_0 s0_1 a1_0 l1_1 a2 a3 = some (r1, r2)) :
    Calls Try.prog 89 #[.pointer (some ⟨g, 0, none⟩), .agg #[.int .i64 a1_0, .slice A1_1 l1_1.length c1_1], .int .i64 a2, .int .i64 a3] w fun e w' => ∃ v0_ : Value, e = .returned (v0_) ∧ Kd.R (Kd.int .i64) 3 w' w.heap.size (fun _ => True) v0_ r1 ∧ IsS106 w0 w' g s0_0 r2 ∧ Below w0.heap.size w0 w' ∧ KeepBut w w' g none := by
  have hu29 := Try.underlying29
  have HR1_1 := Aside0.mk hr1_1
  have HC1_1 := Aside0.mk hc1_1
  clear hr1_1 hc1_1
  have HI0 := Aside0.mk hI
  have HK := Aside0.mk (KeepBut.refl w g none)
  have HL := Aside0.mk hB.size
  clear hI
  have HW0 := Aside0.mk hB.size
  have HB := Aside0.mk hB
  clear hB
  have H : ((spec_l30Rd_pick.f k s0_0 s0_1 (wrap64 (a3 + 1))).bind fun bt575 => (spec_l30Walk.l0 k (([] : List Int)) a2 bt575.1 s0_0 bt575.2 a1_0 l1_1)) = some (r1, r2) := h
  clear h
  obtain ⟨y572, hy572⟩ : ∃ y_ : List Int, y_ = (([] : List Int)) := ⟨_, rfl⟩
  replace H : ((spec_l30Rd_pick.f k s0_0 s0_1 (wrap64 (a3 + 1))).bind fun bt575 => (spec_l30Walk.l0 k y572 a2 bt575.1 s0_0 bt575.2 a1_0 l1_1)) = some (r1, r2) := by first | (rw [hy572]; with_reducible exact H) | (have H2_ := (Option.bind_some _ _).symm.trans H; rw [hy572]; with_reducible exact H2_) | (have H2_ := (Option.bind_some _ _).symm.trans H; with_reducible exact H2_) | with_reducible exact H | (rw [hy572]; exact H) | exact H
  have Ny572 := Aside0.mk hy572
  clear hy572
  replace H := Option.bind_eq_some_iff.mp H
  obtain ⟨⟨t575, t576⟩, A50, H⟩ := H
  replace H : (spec_l30Walk.l0 k y572 a2 t575 s0_0 t576 a1_0 l1_1) = some (r1, r2) := H
  have A5 := Aside0.mk A50
  clear A50
  have H' := Aside0.mk H
  clear H
  go_enter Try.func89, Try.ntmps89
  go_wp2_with (first | ((with_reducible refine gate_dst (N := 5) rfl ?_); refine bx_ 5 #[.int .i64 a1_0, .slice A1_1 l1_1.length c1_1] 29 ?_; intro gb571 hg w6 hbox hb; have BK571 := Aside0.mk (hbox); have GW571 := Aside0.mk (zk_ hg (nk_ HK.out)); have GE571 := Aside0.mk ((Nat.le_trans HW0.out (by rw [hg]; exact (keep_size (w := w) (g := g) (row := none) (nk_ HK.out)) : w.heap.size ≤ gb571) : w0.heap.size ≤ gb571)); have NB0_571 := Aside0.mk ((by rw [hg]; exact Nat.ne_of_lt (IsS106.lt (show IsS106 w0 _ g s0_0 s0_1 from ni106_89 HI0.out)) : g ≠ gb571)); have NB571_0 := Aside0.mk ((by rw [hg]; exact Nat.ne_of_gt (IsS106.lt (show IsS106 w0 _ g s0_0 s0_1 from ni106_89 HI0.out)) : gb571 ≠ g)); replace HI0 := Aside0.mk (IsS106.below (ni106_89 HI0.out) hb); replace HK := Aside0.mk (KeepBut.trans (nk_ HK.out) (KeepBut.of_below hb g none) (.inl rfl)); replace HB := Aside0.mk (below_step (ng106_89 HB.out) hb); clear hb hbox hg) | ((with_reducible refine gate_dst (N := 15) rfl ?_); refine li_ 15 3 [] [] ?_; intro v573 w7 ho8 hb hg_ hnew_; clear hg_ hnew_; (first | rw [← Ny572.out] at ho8 | (simp only [Int.reduceToNat] at ho8; rw [← Ny572.out] at ho8)); have HO574 := Aside0.mk (Kd.R_lower ho8 (keep_size (w := w) (g := g) (row := none) (nk_ HK.out))); replace HI0 := Aside0.mk (IsS106.below (ni106_89 HI0.out) hb); replace BK571 := kb_ BK571 hb; replace HK := Aside0.mk (KeepBut.trans (nk_ HK.out) (KeepBut.of_below hb g none) (.inl rfl)); replace HB := Aside0.mk (below_step (ng106_89 HB.out) hb); clear hb ho8) | ((with_reducible refine gate_callee (f := 88) rfl ?_); refine gl_ (some 20) Try.func88 #[.pointer (some ⟨g, 0, none⟩), .int .i64 (wrap64 (a3 + 1))] ?_; (with_reducible refine (spec_l30Rd_pick.calls k g s0_0 s0_1 (wrap64 (a3 + 1)) t575 t576 w0 _ ?side1 ?side2 A5.out).mono ?_); (case side1 => repeat (first | (with_reducible first | exact HI0.out | apply IsS106.alloc | apply IsS106.drewN | apply IsS106.drew | apply IsS106.set_1 | refine IsS106.far ?_ NB0_571.out _) | exact HI0.out)); (case side2 => exact (ng106_89 HB.out)); rintro e w9 ⟨rfl, hi, hb, hk⟩; refine ⟨_, rfl, ?_⟩; replace BK571 := kk_ BK571 hk NB571_0; replace HO574 := Aside0.mk (Kd.R_mono (Kd.R_keep (IsS106.apart (show IsS106 w0 _ g s0_0 s0_1 from ni106_89 HI0.out) (nr_ HO574.out) (by decide)) hk (fun _ h => h.2)) (fun _ h => h.1)); replace HK := Aside0.mk (KeepBut.trans (nk_ HK.out) hk (.inl rfl)); replace HB := Aside0.mk (hb); replace HI0 := Aside0.mk (hi); (try clear hb); (try clear hb2); (try clear hk); (try clear hi)))
  go_loopg [9, 10, 11] k (fun kq v9 v10 v11 w' => ∃ (x9_1 : List Int) (x10_1 : Int) (x11_1 : Int) (x1001_1 : Int), v10 = .int .i64 x10_1 ∧ v11 = .int .i64 x11_1 ∧ Aside0 (spec_l30Walk.l0 kq x9_1 x10_1 x11_1 s0_0 x1001_1 a1_0 l1_1 = some (r1, r2)) ∧ Aside0 (kq ≤ k) ∧ Aside0 (Kd.R (Kd.int .i64) 3 w' w.heap.size (fun _ => True) v9 x9_1) ∧ Aside0 (w'.heap[gb571]? = some (.cells #[.int .i64 a1_0, (.slice A1_1 l1_1.length c1_1)] 29 (0, 0))) ∧ Aside0 (IsS106 w0 w' g s0_0 x1001_1) ∧ Aside0 (KeepBut w w' g none) ∧ Aside0 (Below w0.heap.size w0 w'))
  case atStart => exact ⟨(y572), (a2), (t575), (t576), ns_, ns_, H', ⟨Nat.le_refl _⟩, ⟨nr_ HO574.out⟩, ⟨nb_ BK571.out⟩, ⟨ni106_89 HI0.out⟩, ⟨nk_ HK.out⟩, ⟨by repeat (first | (with_reducible first | exact HB.out | apply below_alloc | apply pw_below_drewN | apply below_drew1 | refine below_set ?_ (IsS106.ge HI0.out) | refine below_set ?_ GE571.out) | exact HB.out)⟩⟩
  case round =>
   clear H'
   obtain ⟨x9_1, x10_1, x11_1, x1001_1, rfl, rfl, HA, HK1, HO_9, BK571, HI0, HK, HB⟩ := hrel
   cases gk with
   | zero => exact absurd HA.out (by simp [spec_l30Walk.l0])
   | succ k1 =>
    have H := HA.out
    clear HA
    simp only [spec_l30Walk.l0] at H
    by_cases c10 : x11_1 > 0
    rotate_left
    ·rw [if_neg c10] at H
     have c10b0 : decide (0 < x11_1) = false := decide_eq_false c10
     clear c10
     simp only [Option.some.injEq, Prod.mk.injEq] at H
     obtain ⟨rfl, rfl⟩ := H
     go_wp2
     go_ret
     exact ⟨_, nw_, nr_ HO_9.out, ni106_89 HI0.out, by repeat (first | (with_reducible first | exact HB.out | apply below_alloc | apply pw_below_drewN | apply below_drew1 | refine below_set ?_ (IsS106.ge HI0.out) | refine below_set ?_ GE571.out) | exact HB.out), nk_ HK.out⟩

    rw [if_pos c10] at H
    have c10b0 : decide (0 < x11_1) = true := decide_eq_true c10
    clear c10
    obtain ⟨y577, hy577⟩ : ∃ y_ : List Int, y_ = (([] : List Int)) := ⟨_, rfl⟩
    replace H : (spec_l30Walk.l1 k1 x9_1 x10_1 x11_1 y577 0 s0_0 x1001_1 a1_0 l1_1) = some (r1, r2) := by first | (rw [hy577]; with_reducible exact H) | (have H2_ := (Option.bind_some _ _).symm.trans H; rw [hy577]; with_reducible exact H2_) | (have H2_ := (Option.bind_some _ _).symm.trans H; with_reducible exact H2_) | with_reducible exact H | (rw [hy577]; exact H) | exact H
    have Ny577 := Aside0.mk hy577
    clear hy577
    have H' := Aside0.mk H
    clear H
    go_wp2_with (first | ((with_reducible refine gate_dst (N := 25) rfl ?_); refine li_ 25 3 [] [] ?_; intro v578 w11 ho12 hb hg_ hnew_; clear hg_ hnew_; (first | rw [← Ny577.out] at ho12 | (simp only [Int.reduceToNat] at ho12; rw [← Ny577.out] at ho12)); have HO579 := Aside0.mk (Kd.R_lower (Kd.R_new' ho12 (Kd.R_lt (nr_ HO_9.out))) (keep_size (w := w) (g := g) (row := none) (nk_ HK.out))); replace HO_9 := Aside0.mk (Kd.R_elder' (nr_ HO_9.out) (Kd.R_base ho12) hb); replace BK571 := kb_ BK571 hb; replace HI0 := Aside0.mk (IsS106.below (ni106_89 HI0.out) hb); replace HK := Aside0.mk (KeepBut.trans (nk_ HK.out) (KeepBut.of_below hb g none) (.inl rfl)); replace HB := Aside0.mk (below_step (ng106_89 HB.out) hb); clear hb ho12))
    go_loopg [12, 13] k1 (fun kq v12 v13 w' => ∃ (x12_2 : List Int) (x13_2 : Int), v13 = .int .i64 x13_2 ∧ Aside0 (spec_l30Walk.l1 kq x9_1 x10_1 x11_1 x12_2 x13_2 s0_0 x1001_1 a1_0 l1_1 = some (r1, r2)) ∧ Aside0 (kq ≤ k1) ∧ Aside0 (Kd.R (Kd.int .i64) 3 w' w.heap.size (fun k_ => some k_ ≠ (v12 : Value).ownBlock) u9 x9_1) ∧ Aside0 (Kd.R (Kd.int .i64) 3 w' w.heap.size (fun k_ => some k_ ≠ (u9 : Value).ownBlock) v12 x12_2) ∧ Aside0 (w'.heap[gb571]? = some (.cells #[.int .i64 a1_0, (.slice A1_1 l1_1.length c1_1)] 29 (0, 0))) ∧ Aside0 (IsS106 w0 w' g s0_0 x1001_1) ∧ Aside0 (KeepBut w w' g none) ∧ Aside0 (Below w0.heap.size w0 w'))
    case atStart => exact ⟨(y577), (0), ns_, H', ⟨Nat.le_refl _⟩, ⟨by (with_reducible repeat (first | apply Kd.R_alloc | apply Kd.R_drewN | apply Kd.R_drew)); exact Kd.R_mono HO_9.out (fun _ hk => by first | exact hk.2 | trivial | simp_all)⟩, ⟨by (with_reducible repeat (first | apply Kd.R_alloc | apply Kd.R_drewN | apply Kd.R_drew)); exact Kd.R_mono HO579.out (fun _ hk => by first | exact hk.2 | trivial | simp_all)⟩, ⟨nb_ BK571.out⟩, ⟨ni106_89 HI0.out⟩, ⟨nk_ HK.out⟩, ⟨by repeat (first | (with_reducible first | exact HB.out | apply below_alloc | apply pw_below_drewN | apply below_drew1 | refine below_set ?_ (IsS106.ge HI0.out) | refine below_set ?_ GE571.out) | exact HB.out)⟩⟩
    case round =>
     clear H'
     try clear c10
     try clear c10b0
     obtain ⟨x12_2, x13_2, rfl, HA, HK2, HO_9, HO_12, BK571, HI0, HK, HB⟩ := hrel
     cases gk with
     | zero => exact absurd HA.out (by simp [spec_l30Walk.l1])
     | succ k2 =>
      have H := HA.out
      clear HA
      simp only [spec_l30Walk.l1] at H
      by_cases c13 : x13_2 < (l1_1.length : Int)
      ·rw [if_pos c13] at H
       have c13b0 : decide (x13_2 < (l1_1.length : Int)) = true := decide_eq_true c13
       clear c13
       by_cases c14 : 0 ≤ x13_2
       rotate_left
       ·rw [if_neg c14] at H
        exact absurd H (by simp)
       rw [if_pos c14] at H
       have c14b0 : decide (0 ≤ x13_2) = true := decide_eq_true c14
       clear c14
       by_cases c15 : ((rd_T37 l1_1 x13_2).f0) = x10_1
       rotate_left
       ·rw [if_neg c15] at H
        have c15b0 : (((rd_T37 l1_1 x13_2).f0) == x10_1) = false := beq_eq_false_iff_ne.mpr c15
        have c15b1 : (((rd_T37 l1_1 x13_2).f0) != x10_1) = true := bne_iff_ne.mpr c15
        have H' := Aside0.mk H
        clear H
        have hnb20 := NB571_0.out
        have hnc20 := NB0_571.out
        obtain ⟨hcz21_0, hcz21_1, hfz21_0, hfz21_1⟩ := cz2_ BK571.out
        have p580 : 0 ≤ (x13_2 : Int) := of_decide_eq_true nx_
        have q580 : x13_2 < (l1_1.length : Int) := of_decide_eq_true nx_
        obtain ⟨ad580, e580, hx580_0, hx580_1, hx580_2, hx580_3, hx580_4⟩ := at_T37 (Kd.C_foot_now HR1_1.out HK.out) x13_2 p580 q580
        cases e580
        replace p580 := eq_true p580
        replace q580 := eq_true q580
        go_wp2
        go_roundg k2
        case measure => have := HK1.out; have := HK2.out; omega
        case rel => exact ⟨(x12_2), (wrap64 (x13_2 + 1)), ns_, H', ⟨by have := HK1.out; have := HK2.out; omega⟩, ⟨nr_ HO_9.out⟩, ⟨nr_ HO_12.out⟩, ⟨nb_ BK571.out⟩, ⟨ni106_89 HI0.out⟩, ⟨nk_ HK.out⟩, ⟨by repeat (first | (with_reducible first | exact HB.out | apply below_alloc | apply pw_below_drewN | apply below_drew1 | refine below_set ?_ (IsS106.ge HI0.out) | refine below_set ?_ GE571.out) | exact HB.out)⟩⟩
       rw [if_pos c15] at H
       have c15b0 : (((rd_T37 l1_1 x13_2).f0) == x10_1) = true := beq_iff_eq.mpr c15
       have c15b1 : (((rd_T37 l1_1 x13_2).f0) != x10_1) = false := bne_eq_false_iff_eq.mpr c15
       clear c15
       by_cases c16 : x12_2.length < 17592186044416
       rotate_left
       ·rw [if_neg c16] at H
        exact absurd H (by simp)
       rw [if_pos c16] at H
       have LMc16 := Aside0.mk c16
       clear c16
       obtain ⟨y581, hy581⟩ : ∃ y_ : List Int, y_ = (x12_2 ++ [x13_2]) := ⟨_, rfl⟩
       replace H : (spec_l30Walk.l1 k2 x9_1 x10_1 x11_1 y581 (wrap64 (x13_2 + 1)) s0_0 x1001_1 a1_0 l1_1) = some (r1, r2) := by first | (rw [hy581]; with_reducible exact H) | (have H2_ := (Option.bind_some _ _).symm.trans H; rw [hy581]; with_reducible exact H2_) | (have H2_ := (Option.bind_some _ _).symm.trans H; with_reducible exact H2_) | with_reducible exact H | (rw [hy581]; exact H) | exact H
       have Ny581 := Aside0.mk hy581
       clear hy581
       have H' := Aside0.mk H
       clear H
       have hnb17 := NB571_0.out
       have hnc17 := NB0_571.out
       obtain ⟨hcz18_0, hcz18_1, hfz18_0, hfz18_1⟩ := cz2_ BK571.out
       have p580 : 0 ≤ (x13_2 : Int) := of_decide_eq_true nx_
       have q580 : x13_2 < (l1_1.length : Int) := of_decide_eq_true nx_
       obtain ⟨ad580, e580, hx580_0, hx580_1, hx580_2, hx580_3, hx580_4⟩ := at_T37 (Kd.C_foot_now HR1_1.out HK.out) x13_2 p580 q580
       cases e580
       replace p580 := eq_true p580
       replace q580 := eq_true q580
       go_wp2_with (first | ((with_reducible refine gate_builtin (b := .append) (xs := #[.tmp 41, .tmp 43]) rfl ?_); at_builtin; refine Kd.R_append (Kd.int .i64) w.heap.size rfl (.tmp 41) (.tmp 43) 41 3 (.int .i64 0) 8 rfl Try.underlying41 info3 rfl (by decide) (by omega) u12 x12_2 x13_2 [.int .i64 x13_2] (fun k_ => some k_ ≠ (u9 : Value).ownBlock) (fun _ => False) rfl rfl ?aP (fun _ hk => hk.elim) ?aF ?aO (Below.refl _ _) ?aS ?aL ?_; (case aP => exact rfl); (case aF => exact (fun k_ hk => Kd.fresh' (Kd.R_lt (nr_ HO_9.out)) k_ hk)); (case aO => exact (nr_ HO_12.out)); (case aS => exact (keep_size (w := w) (g := g) (row := none) (nk_ HK.out))); (case aL => have := LMc16.out; omega); intro v582 w19 ho hb hg hat; rw [← Ny581.out] at ho; have HO583 := Aside0.mk (ho); replace HO_9 := Aside0.mk (Kd.R_after (ok := (fun _ => True)) (by (with_reducible repeat (first | apply Kd.R_alloc | apply Kd.R_drewN | apply Kd.R_drew)); exact Kd.R_mono HO_9.out (fun _ hk => by first | exact ⟨trivial, hk⟩ | trivial | simp_all)) hg hat); replace BK571 := Aside0.mk (blk_grown (g := gb571) (o := .cells #[.int .i64 a1_0, .slice (some ad580) l1_1.length c1_1] 29 (0, 0)) (nb_ BK571.out) hg (Kd.R_ne HO_12.out BK571.out (by decide))); replace HI0 := Aside0.mk (IsS106.grown (show IsS106 w0 _ g s0_0 x1001_1 from ni106_89 HI0.out) hg (IsS106.own_ne HI0.out HO_12.out (by decide))); replace HB := Aside0.mk (below_weaken (ng106_89 HB.out) HL.out hb); replace HK := Aside0.mk (KeepBut.trans (nk_ HK.out) (KeepBut.of_grown hg g) (Kd.R_base2 HO_12.out)); clear HO_12; clear ho hb hg hat))
       go_roundg k2
       case measure => have := HK1.out; have := HK2.out; omega
       case rel => exact ⟨(y581), (wrap64 (x13_2 + 1)), ns_, H', ⟨by have := HK1.out; have := HK2.out; omega⟩, ⟨by (with_reducible repeat (first | apply Kd.R_alloc | apply Kd.R_drewN | apply Kd.R_drew)); exact Kd.R_mono HO_9.out (fun _ hk => by first | exact hk.2 | trivial | simp_all)⟩, ⟨nr_ HO583.out⟩, ⟨nb_ BK571.out⟩, ⟨ni106_89 HI0.out⟩, ⟨nk_ HK.out⟩, ⟨by repeat (first | (with_reducible first | exact HB.out | apply below_alloc | apply pw_below_drewN | apply below_drew1 | refine below_set ?_ (IsS106.ge HI0.out) | refine below_set ?_ GE571.out) | exact HB.out)⟩⟩
      rw [if_neg c13] at H
      have c13b0 : decide (x13_2 < (l1_1.length : Int)) = false := decide_eq_false c13
      clear c13
      by_cases c22 : (x12_2.length : Int) = 0
      ·rw [if_pos c22] at H
       have c22b0 : ((x12_2.length : Int) == 0) = true := beq_iff_eq.mpr c22
       have c22b1 : ((x12_2.length : Int) != 0) = false := bne_eq_false_iff_eq.mpr c22
       clear c22
       simp only [Option.some.injEq, Prod.mk.injEq] at H
       obtain ⟨rfl, rfl⟩ := H
       have hnb23 := NB571_0.out
       have hnc23 := NB0_571.out
       obtain ⟨hcz24_0, hcz24_1, hfz24_0, hfz24_1⟩ := cz2_ BK571.out
       obtain ⟨Ao25, co25, eo25⟩ := Kd.R_slice HO_12.out
       subst eo25
       go_wp2
       go_ret
       exact ⟨_, nw_, by (with_reducible repeat (first | apply Kd.R_alloc | apply Kd.R_drewN | apply Kd.R_drew)); exact Kd.R_mono HO_9.out (fun _ hk => trivial), ni106_89 HI0.out, by repeat (first | (with_reducible first | exact HB.out | apply below_alloc | apply pw_below_drewN | apply below_drew1 | refine below_set ?_ (IsS106.ge HI0.out) | refine below_set ?_ GE571.out) | exact HB.out), nk_ HK.out⟩
      rw [if_neg c22] at H
      have c22b0 : ((x12_2.length : Int) == 0) = false := beq_eq_false_iff_ne.mpr c22
      have c22b1 : ((x12_2.length : Int) != 0) = true := bne_iff_ne.mpr c22
      have c22b2 : ¬ (x12_2 = []) := fun h_ => c22 (by rw [h_]; rfl)
      replace H := Option.bind_eq_some_iff.mp H
      obtain ⟨⟨t584, t585⟩, A260, H⟩ := H
      try dsimp only at H
      have A26 := Aside0.mk A260
      clear A260
      by_cases c27 : 0 ≤ t584
      rotate_left
      ·rw [if_neg c27] at H
       exact absurd H (by simp)
      rw [if_pos c27] at H
      have c27b0 : decide (0 ≤ t584) = true := decide_eq_true c27
      clear c27
      by_cases c28 : t584 < (x12_2.length : Int)
      rotate_left
      ·rw [if_neg c28] at H
       exact absurd H (by simp)
      rw [if_pos c28] at H
      have c28b0 : decide (t584 < (x12_2.length : Int)) = true := decide_eq_true c28
      clear c28
      by_cases c29 : x9_1.length < 17592186044416
      rotate_left
      ·rw [if_neg c29] at H
       exact absurd H (by simp)
      rw [if_pos c29] at H
      have LMc29 := Aside0.mk c29
      clear c29
      obtain ⟨y587, hy587⟩ : ∃ y_ : List Int, y_ = (x9_1 ++ [rd x12_2 t584]) := ⟨_, rfl⟩
      replace H : (if 0 ≤ (rd x12_2 t584) then (if (rd x12_2 t584) < (l1_1.length : Int) then (spec_l30Walk.l0 k2 y587 ((rd_T37 l1_1 (rd x12_2 t584)).f1) (wrap64 (x11_1 - 1)) s0_0 t585 a1_0 l1_1) else (none)) else (none)) = some (r1, r2) := by first | (rw [hy587]; with_reducible exact H) | (have H2_ := (Option.bind_some _ _).symm.trans H; rw [hy587]; with_reducible exact H2_) | (have H2_ := (Option.bind_some _ _).symm.trans H; with_reducible exact H2_) | with_reducible exact H | (rw [hy587]; exact H) | exact H
      have Ny587 := Aside0.mk hy587
      clear hy587
      by_cases c30 : 0 ≤ (rd x12_2 t584)
      rotate_left
      ·rw [if_neg c30] at H
       exact absurd H (by simp)
      rw [if_pos c30] at H
      have c30b0 : decide (0 ≤ (rd x12_2 t584)) = true := decide_eq_true c30
      clear c30
      by_cases c31 : (rd x12_2 t584) < (l1_1.length : Int)
      rotate_left
      ·rw [if_neg c31] at H
       exact absurd H (by simp)
      rw [if_pos c31] at H
      have c31b0 : decide ((rd x12_2 t584) < (l1_1.length : Int)) = true := decide_eq_true c31
      clear c31
      have H' := Aside0.mk H
      clear H
      have hnb32 := NB571_0.out
      have hnc32 := NB0_571.out
      obtain ⟨hcz33_0, hcz33_1, hfz33_0, hfz33_1⟩ := cz2_ BK571.out
      obtain ⟨Ao34, co34, eo34⟩ := Kd.R_slice HO_12.out
      subst eo34
      go_wp2_with (first | ((with_reducible refine gate_callee (f := 88) rfl ?_); refine gl_ (some 52) Try.func88 #[.pointer (some ⟨g, 0, none⟩), .int .i64 (x12_2.length : Int)] ?_; (with_reducible refine (spec_l30Rd_pick.calls k2 g s0_0 x1001_1 (x12_2.length : Int) t584 t585 w0 _ ?side1 ?side2 A26.out).mono ?_); (case side1 => repeat (first | (with_reducible first | exact HI0.out | apply IsS106.alloc | apply IsS106.drewN | apply IsS106.drew | apply IsS106.set_1 | refine IsS106.far ?_ NB0_571.out _) | exact HI0.out)); (case side2 => exact (ng106_89 HB.out)); rintro e w35 ⟨rfl, hi, hb, hk⟩; refine ⟨_, rfl, ?_⟩; replace HO_9 := Aside0.mk (Kd.R_mono (Kd.R_keep (IsS106.apart (show IsS106 w0 _ g s0_0 x1001_1 from ni106_89 HI0.out) (nr_ HO_9.out) (by decide)) hk (fun _ h => h.2)) (fun _ h => h.1)); replace HO_12 := Aside0.mk (Kd.R_mono (Kd.R_keep (IsS106.apart (show IsS106 w0 _ g s0_0 x1001_1 from ni106_89 HI0.out) (nr_ HO_12.out) (by decide)) hk (fun _ h => h.2)) (fun _ h => h.1)); replace BK571 := kk_ BK571 hk NB571_0; replace HK := Aside0.mk (KeepBut.trans (nk_ HK.out) hk (.inl rfl)); replace HB := Aside0.mk (hb); replace HI0 := Aside0.mk (hi); (try clear hb); (try clear hb2); (try clear hk); (try clear hi); have p586 : 0 ≤ (t584 : Int) := of_decide_eq_true nx_; have q586 : t584 < (x12_2.length : Int) := of_decide_eq_true nx_; obtain ⟨ad586, e586, hx586_0⟩ := Kd.at_int (Kd.R_reads' HO_12.out).2.2 t584 p586 q586; cases e586; replace p586 := eq_true p586; replace q586 := eq_true q586) | ((with_reducible refine gate_builtin (b := .append) (xs := #[.tmp 55, .tmp 57]) rfl ?_); at_builtin; refine Kd.R_append (Kd.int .i64) w.heap.size rfl (.tmp 55) (.tmp 57) 41 3 (.int .i64 0) 8 rfl Try.underlying41 info3 rfl (by decide) (by omega) u9 x9_1 (rd x12_2 t584) [.int .i64 (rd x12_2 t584)] (fun k_ => some k_ ≠ (.slice (some ad586) x12_2.length co34 : Value).ownBlock) (fun _ => False) rfl rfl ?aP (fun _ hk => hk.elim) ?aF ?aO (Below.refl _ _) ?aS ?aL ?_; (case aP => exact rfl); (case aF => exact (fun k_ hk => Kd.fresh' (Kd.R_lt (nr_ HO_12.out)) k_ hk)); (case aO => exact (nr_ HO_9.out)); (case aS => exact (keep_size (w := w) (g := g) (row := none) (nk_ HK.out))); (case aL => have := LMc29.out; omega); intro v588 w36 ho hb hg hat; rw [← Ny587.out] at ho; have HO589 := Aside0.mk (ho); replace HO_12 := Aside0.mk (Kd.R_after (ok := (fun _ => True)) (by (with_reducible repeat (first | apply Kd.R_alloc | apply Kd.R_drewN | apply Kd.R_drew)); exact Kd.R_mono HO_12.out (fun _ hk => by first | exact ⟨trivial, hk⟩ | trivial | simp_all)) hg hat); replace BK571 := Aside0.mk (blk_grown (g := gb571) (o := .cells #[.int .i64 a1_0, .slice A1_1 l1_1.length c1_1] 29 (0, 0)) (nb_ BK571.out) hg (Kd.R_ne HO_9.out BK571.out (by decide))); replace HI0 := Aside0.mk (IsS106.grown (show IsS106 w0 _ g s0_0 t585 from ni106_89 HI0.out) hg (IsS106.own_ne HI0.out HO_9.out (by decide))); replace HB := Aside0.mk (below_weaken (ng106_89 HB.out) HL.out hb); replace HK := Aside0.mk (KeepBut.trans (nk_ HK.out) (KeepBut.of_grown hg g) (Kd.R_base2 HO_9.out)); clear HO_9; clear ho hb hg hat; obtain ⟨hcz37_0, hcz37_1, hfz37_0, hfz37_1⟩ := cz2_ BK571.out; have p590 : 0 ≤ ((rd x12_2 t584) : Int) := of_decide_eq_true nx_; have q590 : (rd x12_2 t584) < (l1_1.length : Int) := of_decide_eq_true nx_; obtain ⟨ad590, e590, hx590_0, hx590_1, hx590_2, hx590_3, hx590_4⟩ := at_T37 (Kd.C_foot_now HR1_1.out HK.out) (rd x12_2 t584) p590 q590; cases e590; replace p590 := eq_true p590; replace q590 := eq_true q590))
      go_roundg k2
      case measure => have := HK1.out; have := HK2.out; omega
      case rel => exact ⟨(y587), ((rd_T37 l1_1 (rd x12_2 t584)).f1), (wrap64 (x11_1 - 1)), (t585), ns_, ns_, H', ⟨by have := HK1.out; have := HK2.out; omega⟩, ⟨by (with_reducible repeat (first | apply Kd.R_alloc | apply Kd.R_drewN | apply Kd.R_drew)); exact Kd.R_mono HO589.out (fun _ hk => trivial)⟩, ⟨nb_ BK571.out⟩, ⟨ni106_89 HI0.out⟩, ⟨nk_ HK.out⟩, ⟨by repeat (first | (with_reducible first | exact HB.out | apply below_alloc | apply pw_below_drewN | apply below_drew1 | refine below_set ?_ (IsS106.ge HI0.out) | refine below_set ?_ GE571.out) | exact HB.out)⟩⟩
end Go.Proofs.Ytpjmkghmjpbldaa.Print
