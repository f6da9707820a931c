-- Made by this session's own program (wip/patch_print.py, over the kit's print). Lean checks it.
import Derived.Test.YtppjelkljihdoaaDoorPrint0
import Derived.Test.YtppjelkljihdoaaDoorPrintF38
import Derived.Test.YtppjelkljihdoaaDoorPrintF39
import Derived.Test.YtppjelkljihdoaaDoorPrintF48
namespace Go.Proofs.YtppjelkljihdoaaDoor.Print
open Go.RowKit Go.Proofs.YtppjelkljihdoaaDoorW.PrintWords Go.Proofs.YtppjelkljihdoaaDoorW.PrintLast Go.Proofs.YtppjelkljihdoaaDoorW.PrintMore Go.Proofs.YtppjelkljihdoaaDoorX
attribute [local go_sem] max2_int min2_int max_two min_two max_three min_three max_four min_four   -- for this text's walks alone
set_option linter.unusedVariables false
set_option linter.unusedSimpArgs false

theorem ng79_21 {B : Nat} {w W W' : World} (h : Below B w W) (e : Below B w W → Below B w W' := by intro h_; repeat (first | (with_reducible first | exact h_ | apply below_alloc | apply pw_below_drewN | apply below_drew1 | refine below_set ?_ (IsS79.ge (Aside0.out (by with_reducible assumption))) | refine below_set ?_ (Aside0.out (by with_reducible assumption))) | exact h_)) : Below B w W' := e h
theorem ni79_21 {p q : Prop} (h : p) (e : p → q := by intro h_; repeat (first | (with_reducible first | exact h_ | apply IsS79.alloc | apply IsS79.drewN | apply IsS79.drew | apply IsS79.set_1 | refine IsS79.far ?_ (Aside0.out (by with_reducible assumption)) _) | exact h_)) : q := e h
/-! ### spec_l30AnyNet: function 21 -/
def spec_l30AnyNet.f (k : Nat) (s0_0 : List Int) (s0_1 : Int) : Option (Int × (List (S54)) × Int) := (spec_l30Net.f k s0_0 s0_1).bind fun bt139 => (if (bt139.2.1.length : Int) > 0 then ((spec_l30Rd_pick.f k s0_0 bt139.2.2 (bt139.2.1.length : Int)).bind fun bt145 => ((spec_l30Rd_pick.f k s0_0 bt145.2 16).bind fun bt147 => (if bt147.1 = 0 then (if 0 ≤ bt145.1 then (if bt145.1 < (bt139.2.1.length : Int) then ((spec_l30Rd_one.f k s0_0 bt147.2 (([(-1), 8, (rd_T54 bt139.2.1 bt145.1).f0] : List Int))).bind fun bt153 => (some (bt139.1, (bt139.2.1.set (bt145.1 : Int).toNat (⟨(rd_T54 bt139.2.1 bt145.1).f0, bt153.1, (rd_T54 bt139.2.1 bt145.1).f2, (rd_T54 bt139.2.1 bt145.1).f3, (rd_T54 bt139.2.1 bt145.1).f4⟩ : S54)), bt153.2))) else (none)) else (none)) else (if bt147.1 = 1 then ((spec_l30Rd_one.f k s0_0 bt147.2 (([(-1), 100] : List Int))).bind fun bt159 => (if 0 ≤ bt145.1 then (if bt145.1 < (bt139.2.1.length : Int) then (some (bt139.1, (bt139.2.1.set (bt145.1 : Int).toNat (⟨(rd_T54 bt139.2.1 bt145.1).f0, (rd_T54 bt139.2.1 bt145.1).f1, bt159.1, (rd_T54 bt139.2.1 bt145.1).f3, (rd_T54 bt139.2.1 bt145.1).f4⟩ : S54)), bt159.2)) else (none)) else (none))) else (if bt147.1 = 2 then ((spec_l30Rd_one.f k s0_0 bt147.2 (([0, 1, 9, 8] : List Int))).bind fun bt165 => (some (bt165.1, bt139.2.1, bt165.2))) else (some (bt139.1, bt139.2.1, bt147.2))))))) else (some (bt139.1, bt139.2.1, bt139.2.2)))
theorem spec_l30AnyNet.mono : ∀ a0 a1 k, LeO (spec_l30AnyNet.f k a0 a1) (spec_l30AnyNet.f (k + 1) a0 a1) := by
  intro a0 a1 k
  unfold spec_l30AnyNet.f
  repeat' first | (with_reducible first | exact spec_l30Net.mono _ _ _ | exact spec_l30Rd_one.mono _ _ _ _ | exact spec_l30Rd_pick.mono _ _ _ _ | exact LeO.refl _ | exact LeO.none _ | refine LeO.ite ?_ ?_ | refine LeO.bind ?_ (fun _ => ?_)) | exact spec_l30Net.mono _ _ _ | exact spec_l30Rd_one.mono _ _ _ _ | exact spec_l30Rd_pick.mono _ _ _ _ | exact LeO.none _ | refine LeO.ite ?_ ?_ | refine LeO.bind ?_ (fun _ => ?_)
def spec_l30AnyNet.T6 : Bool × List (List Nat × List Nat) := (true, [([], []), ([0], [0]), ([], []), ([], []), ([], []), ([4], [4]), ([], []), ([5, 6], [5, 6]), ([7], [7]), ([8], [8]), ([9], [9]), ([3, 10], [3, 10]), ([1, 2, 0, 1, 2, 3, 4, 5, 6, 7, 8, 9, 10, 11], [1, 2]), ([12, 0, 1, 2, 3, 4, 5, 6, 7, 8, 9, 10, 11], [12]), ([13, 11, 11, 0, 1, 2, 3, 4, 5, 6, 7, 8, 9, 10, 11], [11, 13])])
def spec_l30AnyNet.B6 : List Nat := [0, 1, 0, 0, 0, 16, 0, 112, 240, 496, 1008, 2040, 4095, 8191, 16383]
theorem spec_l30AnyNet.tab6 : rtab .any (opsOf Tryd.f21 6) = spec_l30AnyNet.T6 := by kernel_rfl
theorem spec_l30AnyNet.bits6 : waitsOk spec_l30AnyNet.T6.2 spec_l30AnyNet.B6 = true := by kernel_rfl
def spec_l30AnyNet.T8 : Bool × List (List Nat × List Nat) := (true, [([], []), ([0], [0]), ([], []), ([], []), ([], []), ([3, 4], [3, 4]), ([1, 2, 0, 1, 2, 3, 4, 5], [1, 2]), ([6, 0, 1, 2, 3, 4, 5], [6]), ([7, 5, 5, 0, 1, 2, 3, 4, 5], [5, 7])])
def spec_l30AnyNet.B8 : List Nat := [0, 1, 0, 0, 0, 24, 63, 127, 255]
theorem spec_l30AnyNet.tab8 : rtab .any (opsOf Tryd.f21 8) = spec_l30AnyNet.T8 := by kernel_rfl
theorem spec_l30AnyNet.bits8 : waitsOk spec_l30AnyNet.T8.2 spec_l30AnyNet.B8 = true := by kernel_rfl
set_option maxHeartbeats 200000000 in
set_option maxRecDepth 100000 in
theorem spec_l30AnyNet.calls (k : Nat) (g : Nat) (s0_0 : List Int) (s0_1 : Int) (r1 : Int) (r2 : List (S54)) (r3 : Int) (w0 w : World) (hI : IsS79 w0 w g s0_0 s0_1) (hB : Below w0.heap.size w0 w) (h : spec_l30AnyNet.f k s0_0 s0_1 = some (r1, r2, r3)) :
    Calls Tryd.prog 21 #[.pointer (some ⟨g, 0, none⟩)] w fun e w' => ∃ v1_ : Value, e = .returned (.agg #[.int .i64 r1, v1_]) ∧ Kd.R k54 54 w' w.heap.size (fun _ => True) v1_ r2 ∧ IsS79 w0 w' g s0_0 r3 ∧ Below w0.heap.size w0 w' ∧ KeepBut w w' g none := by
  have hu25 := Tryd.underlying25
  have HI0 := Aside0.mk hI
  have HK := Aside0.mk (KeepBut.refl w g none)
  have HL := Aside0.mk hB.size
  clear hI
  have HW0 := Aside0.mk hB.size
  have HB := Aside0.mk hB
  clear hB
  have H : ((spec_l30Net.f k s0_0 s0_1).bind fun bt139 => (if (bt139.2.1.length : Int) > 0 then ((spec_l30Rd_pick.f k s0_0 bt139.2.2 (bt139.2.1.length : Int)).bind fun bt145 => ((spec_l30Rd_pick.f k s0_0 bt145.2 16).bind fun bt147 => (if bt147.1 = 0 then (if 0 ≤ bt145.1 then (if bt145.1 < (bt139.2.1.length : Int) then ((spec_l30Rd_one.f k s0_0 bt147.2 (([(-1), 8, (rd_T54 bt139.2.1 bt145.1).f0] : List Int))).bind fun bt153 => (some (bt139.1, (bt139.2.1.set (bt145.1 : Int).toNat (⟨(rd_T54 bt139.2.1 bt145.1).f0, bt153.1, (rd_T54 bt139.2.1 bt145.1).f2, (rd_T54 bt139.2.1 bt145.1).f3, (rd_T54 bt139.2.1 bt145.1).f4⟩ : S54)), bt153.2))) else (none)) else (none)) else (if bt147.1 = 1 then ((spec_l30Rd_one.f k s0_0 bt147.2 (([(-1), 100] : List Int))).bind fun bt159 => (if 0 ≤ bt145.1 then (if bt145.1 < (bt139.2.1.length : Int) then (some (bt139.1, (bt139.2.1.set (bt145.1 : Int).toNat (⟨(rd_T54 bt139.2.1 bt145.1).f0, (rd_T54 bt139.2.1 bt145.1).f1, bt159.1, (rd_T54 bt139.2.1 bt145.1).f3, (rd_T54 bt139.2.1 bt145.1).f4⟩ : S54)), bt159.2)) else (none)) else (none))) else (if bt147.1 = 2 then ((spec_l30Rd_one.f k s0_0 bt147.2 (([0, 1, 9, 8] : List Int))).bind fun bt165 => (some (bt165.1, bt139.2.1, bt165.2))) else (some (bt139.1, bt139.2.1, bt147.2))))))) else (some (bt139.1, bt139.2.1, bt139.2.2)))) = some (r1, r2, r3) := h
  clear h
  replace H := Option.bind_eq_some_iff.mp H
  obtain ⟨⟨t139, t140, t143⟩, A20, H⟩ := H
  try dsimp only at H
  have A2 := Aside0.mk A20
  clear A20
  by_cases c3 : (t140.length : Int) > 0
  rotate_left
  ·rw [if_neg c3] at H
   have c3b0 : decide (0 < (t140.length : Int)) = false := decide_eq_false c3
   have c3b1 : decide (0 < t140.length) = false := decide_eq_false (by omega)
   clear c3
   simp only [Option.some.injEq, Prod.mk.injEq] at H
   obtain ⟨rfl, rfl, rfl⟩ := H
   go_enter Tryd.func21, Tryd.ntmps21
   go_wp2_with (first | ((with_reducible refine gate_dst (N := 2) rfl ?_); refine bx_ 2 #[.int .i64 0, .slice none 0 0] 25 ?_; intro gb138 hg w84 hbox hb; have BK138 := Aside0.mk (hbox); have GW138 := Aside0.mk (zk_ hg (nk_ HK.out)); have GE138 := Aside0.mk ((Nat.le_trans HW0.out (by rw [hg]; exact (keep_size (w := w) (g := g) (row := none) (nk_ HK.out)) : w.heap.size ≤ gb138) : w0.heap.size ≤ gb138)); have NB0_138 := Aside0.mk ((by rw [hg]; exact Nat.ne_of_lt (IsS79.lt (show IsS79 w0 _ g s0_0 s0_1 from ni79_21 HI0.out)) : g ≠ gb138)); have NB138_0 := Aside0.mk ((by rw [hg]; exact Nat.ne_of_gt (IsS79.lt (show IsS79 w0 _ g s0_0 s0_1 from ni79_21 HI0.out)) : gb138 ≠ g)); replace HI0 := Aside0.mk (IsS79.below (ni79_21 HI0.out) hb); replace HK := Aside0.mk (KeepBut.trans (nk_ HK.out) (KeepBut.of_below hb g none) (.inl rfl)); replace HB := Aside0.mk (below_step (ng79_21 HB.out) hb); clear hb hbox hg) | ((with_reducible refine gate_callee (f := 38) rfl ?_); refine gl_ (some 6) Tryd.func38 #[.pointer (some ⟨g, 0, none⟩)] ?_; (with_reducible refine (spec_l30Net.calls k g s0_0 s0_1 t139 t140 t143 w0 _ ?side1 ?side2 A2.out).mono ?_); (case side1 => repeat (first | (with_reducible first | exact HI0.out | apply IsS79.alloc | apply IsS79.drewN | apply IsS79.drew | apply IsS79.set_1 | refine IsS79.far ?_ NB0_138.out _) | exact HI0.out)); (case side2 => exact (ng79_21 HB.out)); rintro e w85 ⟨v141, rfl, ho0, hi, hb, hk⟩; refine ⟨_, rfl, ?_⟩; have HO142 := Aside0.mk (Kd.R_lower ho0 (keep_size (w := w) (g := g) (row := none) (nk_ HK.out))); replace BK138 := kk_ BK138 hk NB138_0; replace HK := Aside0.mk (KeepBut.trans (nk_ HK.out) hk (.inl rfl)); replace HB := Aside0.mk (hb); replace HI0 := Aside0.mk (hi); (try clear hb); (try clear hb2); (try clear hk); (try clear hi); (try clear ho0)) | ((with_reducible refine gate_dst (N := 3) rfl ?_); refine bx_ 3 #[.int .i64 0, .slice none 0 0] 25 ?_; intro gb144 hg w86 hbox hb; have BK144 := Aside0.mk (hbox); have GW144 := Aside0.mk (zk_ hg (nk_ HK.out)); have GE144 := Aside0.mk ((Nat.le_trans HW0.out (by rw [hg]; exact (keep_size (w := w) (g := g) (row := none) (nk_ HK.out)) : w.heap.size ≤ gb144) : w0.heap.size ≤ gb144)); have NB138_144 := Aside0.mk (nl_ BK138.out hg); have NB144_138 := Aside0.mk (nm_ BK138.out hg); have NB0_144 := Aside0.mk ((by rw [hg]; exact Nat.ne_of_lt (IsS79.lt (show IsS79 w0 _ g s0_0 t143 from ni79_21 HI0.out)) : g ≠ gb144)); have NB144_0 := Aside0.mk ((by rw [hg]; exact Nat.ne_of_gt (IsS79.lt (show IsS79 w0 _ g s0_0 t143 from ni79_21 HI0.out)) : gb144 ≠ g)); replace HO142 := kR_ HO142 hb; replace HI0 := Aside0.mk (IsS79.below (ni79_21 HI0.out) hb); replace BK138 := kb_ BK138 hb; replace HK := Aside0.mk (KeepBut.trans (nk_ HK.out) (KeepBut.of_below hb g none) (.inl rfl)); replace HB := Aside0.mk (below_step (ng79_21 HB.out) hb); clear hb hbox hg; have hnb87 := NB144_138.out; have hnc87 := NB138_144.out; have hnb88 := NB144_0.out; have hnc88 := NB0_144.out; obtain ⟨hcz89_0, hcz89_1, hfz89_0, hfz89_1⟩ := cz2_ BK144.out; obtain ⟨Ao90, co90, eo90⟩ := Kd.R_slice HO142.out; subst eo90; have hnb91 := NB138_0.out; have hnc91 := NB0_138.out; obtain ⟨hcz92_0, hcz92_1, hfz92_0, hfz92_1⟩ := cz2_ BK138.out))
   refine bodyPost_ret (results_cell_row rfl _ _ gb138 25 #[.int .i64 t139, .slice Ao90 t140.length co90] (0, 0) _ rfl (np_ BK138.out) Tryd.underlying25 rfl (by kernel_rfl)) rfl ?_
   exact ⟨_, nw_, by (with_reducible repeat (first | apply Kd.R_alloc | apply Kd.R_drewN | apply Kd.R_drew)); exact Kd.R_mono (rf2_ (Kd.R_far (p := ⟨gb144, 1, none⟩) (Kd.R_far (p := ⟨gb144, 0, none⟩) (Kd.R_types (Kd.R_types HO142.out BK144.out (by decide)) BK138.out (by decide)) (fun _ hk => hk.1.2) (.int .i64 t139)) (fun _ hk => hk.1.2) (.slice Ao90 t140.length co90))) (fun _ hk => trivial), ni79_21 HI0.out, by repeat (first | (with_reducible first | exact HB.out | apply below_alloc | apply pw_below_drewN | apply below_drew1 | refine below_set ?_ (IsS79.ge HI0.out) | refine below_set ?_ GE138.out | refine below_set ?_ GE144.out) | exact HB.out), nk_ HK.out⟩

  rw [if_pos c3] at H
  have c3b0 : decide (0 < (t140.length : Int)) = true := decide_eq_true c3
  have c3b1 : decide (0 < t140.length) = true := decide_eq_true (by omega)
  clear c3
  replace H := Option.bind_eq_some_iff.mp H
  obtain ⟨⟨t145, t146⟩, A40, H⟩ := H
  try dsimp only at H
  have A4 := Aside0.mk A40
  clear A40
  replace H := Option.bind_eq_some_iff.mp H
  obtain ⟨⟨t147, t148⟩, A50, H⟩ := H
  try dsimp only at H
  have A5 := Aside0.mk A50
  clear A50
  by_cases c6 : t147 = 0
  ·rw [if_pos c6] at H
   have c6b0 : (t147 == 0) = true := beq_iff_eq.mpr c6
   have c6b1 : (t147 != 0) = false := bne_eq_false_iff_eq.mpr c6
   clear c6
   by_cases c7 : 0 ≤ t145
   rotate_left
   ·rw [if_neg c7] at H
    exact absurd H (by simp)
   rw [if_pos c7] at H
   have c7b0 : decide (0 ≤ t145) = true := decide_eq_true c7
   clear c7
   by_cases c8 : t145 < (t140.length : Int)
   rotate_left
   ·rw [if_neg c8] at H
    exact absurd H (by simp)
   rw [if_pos c8] at H
   have c8b0 : decide (t145 < (t140.length : Int)) = true := decide_eq_true c8
   clear c8
   obtain ⟨y150, hy150⟩ : ∃ y_ : List Int, y_ = (([(-1), 8, (rd_T54 t140 t145).f0] : List Int)) := ⟨_, rfl⟩
   replace H : ((spec_l30Rd_one.f k s0_0 t148 y150).bind fun bt153 => (some (t139, (t140.set (t145 : Int).toNat (⟨(rd_T54 t140 t145).f0, bt153.1, (rd_T54 t140 t145).f2, (rd_T54 t140 t145).f3, (rd_T54 t140 t145).f4⟩ : S54)), bt153.2))) = some (r1, r2, r3) := by first | (rw [hy150]; with_reducible exact H) | (have H2_ := (Option.bind_some _ _).symm.trans H; rw [hy150]; with_reducible exact H2_) | (have H2_ := (Option.bind_some _ _).symm.trans H; with_reducible exact H2_) | with_reducible exact H | (rw [hy150]; exact H) | exact H
   have Ny150 := Aside0.mk hy150
   clear hy150
   replace H := Option.bind_eq_some_iff.mp H
   obtain ⟨⟨t153, t154⟩, A90, H⟩ := H
   try dsimp only at H
   have A9 := Aside0.mk A90
   clear A90
   obtain ⟨y155, hy155⟩ : ∃ y_ : List (S54), y_ = (t140.set (t145 : Int).toNat (⟨(rd_T54 t140 t145).f0, t153, (rd_T54 t140 t145).f2, (rd_T54 t140 t145).f3, (rd_T54 t140 t145).f4⟩ : S54)) := ⟨_, rfl⟩
   replace H : (some (t139, y155, t154)) = some (r1, r2, r3) := by first | (rw [hy155]; with_reducible exact H) | (have H2_ := (Option.bind_some _ _).symm.trans H; rw [hy155]; with_reducible exact H2_) | (have H2_ := (Option.bind_some _ _).symm.trans H; with_reducible exact H2_) | with_reducible exact H | (rw [hy155]; exact H) | exact H
   have Ny155 := Aside0.mk hy155
   clear hy155
   simp only [Option.some.injEq, Prod.mk.injEq] at H
   obtain ⟨rfl, rfl, rfl⟩ := H
   go_enter Tryd.func21, Tryd.ntmps21
   try go_wp2_with (first | ((with_reducible refine gate_dst (N := 2) rfl ?_); refine bx_ 2 #[.int .i64 0, .slice none 0 0] 25 ?_; intro gb138 hg w11 hbox hb; have BK138 := Aside0.mk (hbox); have GW138 := Aside0.mk (zk_ hg (nk_ HK.out)); have GE138 := Aside0.mk ((Nat.le_trans HW0.out (by rw [hg]; exact (keep_size (w := w) (g := g) (row := none) (nk_ HK.out)) : w.heap.size ≤ gb138) : w0.heap.size ≤ gb138)); have NB0_138 := Aside0.mk ((by rw [hg]; exact Nat.ne_of_lt (IsS79.lt (show IsS79 w0 _ g s0_0 s0_1 from ni79_21 HI0.out)) : g ≠ gb138)); have NB138_0 := Aside0.mk ((by rw [hg]; exact Nat.ne_of_gt (IsS79.lt (show IsS79 w0 _ g s0_0 s0_1 from ni79_21 HI0.out)) : gb138 ≠ g)); replace HI0 := Aside0.mk (IsS79.below (ni79_21 HI0.out) hb); replace HK := Aside0.mk (KeepBut.trans (nk_ HK.out) (KeepBut.of_below hb g none) (.inl rfl)); replace HB := Aside0.mk (below_step (ng79_21 HB.out) hb); clear hb hbox hg) | ((with_reducible refine gate_callee (f := 38) rfl ?_); refine gl_ (some 6) Tryd.func38 #[.pointer (some ⟨g, 0, none⟩)] ?_; (with_reducible refine (spec_l30Net.calls k g s0_0 s0_1 t139 t140 t143 w0 _ ?side1 ?side2 A2.out).mono ?_); (case side1 => repeat (first | (with_reducible first | exact HI0.out | apply IsS79.alloc | apply IsS79.drewN | apply IsS79.drew | apply IsS79.set_1 | refine IsS79.far ?_ NB0_138.out _) | exact HI0.out)); (case side2 => exact (ng79_21 HB.out)); rintro e w12 ⟨v141, rfl, ho0, hi, hb, hk⟩; refine ⟨_, rfl, ?_⟩; have HO142 := Aside0.mk (Kd.R_lower ho0 (keep_size (w := w) (g := g) (row := none) (nk_ HK.out))); replace BK138 := kk_ BK138 hk NB138_0; replace HK := Aside0.mk (KeepBut.trans (nk_ HK.out) hk (.inl rfl)); replace HB := Aside0.mk (hb); replace HI0 := Aside0.mk (hi); (try clear hb); (try clear hb2); (try clear hk); (try clear hi); (try clear ho0)) | ((with_reducible refine gate_dst (N := 3) rfl ?_); refine bx_ 3 #[.int .i64 0, .slice none 0 0] 25 ?_; intro gb144 hg w13 hbox hb; have BK144 := Aside0.mk (hbox); have GW144 := Aside0.mk (zk_ hg (nk_ HK.out)); have GE144 := Aside0.mk ((Nat.le_trans HW0.out (by rw [hg]; exact (keep_size (w := w) (g := g) (row := none) (nk_ HK.out)) : w.heap.size ≤ gb144) : w0.heap.size ≤ gb144)); have NB138_144 := Aside0.mk (nl_ BK138.out hg); have NB144_138 := Aside0.mk (nm_ BK138.out hg); have NB0_144 := Aside0.mk ((by rw [hg]; exact Nat.ne_of_lt (IsS79.lt (show IsS79 w0 _ g s0_0 t143 from ni79_21 HI0.out)) : g ≠ gb144)); have NB144_0 := Aside0.mk ((by rw [hg]; exact Nat.ne_of_gt (IsS79.lt (show IsS79 w0 _ g s0_0 t143 from ni79_21 HI0.out)) : gb144 ≠ g)); replace HO142 := kR_ HO142 hb; replace HI0 := Aside0.mk (IsS79.below (ni79_21 HI0.out) hb); replace BK138 := kb_ BK138 hb; replace HK := Aside0.mk (KeepBut.trans (nk_ HK.out) (KeepBut.of_below hb g none) (.inl rfl)); replace HB := Aside0.mk (below_step (ng79_21 HB.out) hb); clear hb hbox hg; have hnb14 := NB144_138.out; have hnc14 := NB138_144.out; have hnb15 := NB144_0.out; have hnc15 := NB0_144.out; obtain ⟨hcz16_0, hcz16_1, hfz16_0, hfz16_1⟩ := cz2_ BK144.out; obtain ⟨Ao17, co17, eo17⟩ := Kd.R_slice HO142.out; subst eo17) | ((with_reducible refine gate_callee (f := 39) rfl ?_); refine gl_ (some 15) Tryd.func39 #[.pointer (some ⟨g, 0, none⟩), .int .i64 (t140.length : Int)] ?_; (with_reducible refine (spec_l30Rd_pick.calls k g s0_0 t143 (t140.length : Int) t145 t146 w0 _ ?side1 ?side2 A4.out).mono ?_); (case side1 => repeat (first | (with_reducible first | exact HI0.out | apply IsS79.alloc | apply IsS79.drewN | apply IsS79.drew | apply IsS79.set_1 | refine IsS79.far ?_ NB0_138.out _ | refine IsS79.far ?_ NB0_144.out _) | exact HI0.out)); (case side2 => exact (ng79_21 HB.out)); rintro e w18 ⟨rfl, hi, hb, hk⟩; refine ⟨_, rfl, ?_⟩; replace BK138 := Aside0.mk (KeepBut.blk hk (g' := gb138) (o := .cells #[.int .i64 0, .slice none 0 0] 25 (0, 0)) (nbf_ BK138.out) NB138_0.out (by simp)); replace HO142 := Aside0.mk (Kd.R_mono (Kd.R_keep (IsS79.apart (show IsS79 w0 _ g s0_0 t143 from ni79_21 HI0.out) (by (with_reducible repeat (first | apply Kd.R_alloc | apply Kd.R_drewN | apply Kd.R_drew)); exact (Kd.R_mono (rf2_ (Kd.R_types HO142.out BK144.out (by decide))) (fun _ h_ => h_.1))) (by decide)) hk (fun _ h => h.2)) (fun _ h => h.1)); replace BK144 := Aside0.mk (KeepBut.blk hk (g' := gb144) (o := .cells #[.int .i64 t139, .slice Ao17 t140.length co17] 25 (0, 0)) (np_ BK144.out) NB144_0.out (by simp)); replace HK := Aside0.mk (KeepBut.trans (nk_ HK.out) hk (.inl rfl)); replace HB := Aside0.mk (hb); replace HI0 := Aside0.mk (hi); (try clear hb); (try clear hb2); (try clear hk); (try clear hi)) | ((with_reducible refine gate_callee (f := 39) rfl ?_); refine gl_ (some 17) Tryd.func39 #[.pointer (some ⟨g, 0, none⟩), .int .i64 16] ?_; (with_reducible refine (spec_l30Rd_pick.calls k g s0_0 t146 16 t147 t148 w0 _ ?side1 ?side2 A5.out).mono ?_); (case side1 => repeat (first | (with_reducible first | exact HI0.out | apply IsS79.alloc | apply IsS79.drewN | apply IsS79.drew | apply IsS79.set_1 | refine IsS79.far ?_ NB0_138.out _ | refine IsS79.far ?_ NB0_144.out _) | exact HI0.out)); (case side2 => exact (ng79_21 HB.out)); rintro e w19 ⟨rfl, hi, hb, hk⟩; refine ⟨_, rfl, ?_⟩; replace BK138 := kk_ BK138 hk NB138_0; replace HO142 := Aside0.mk (Kd.R_mono (Kd.R_keep (IsS79.apart (show IsS79 w0 _ g s0_0 t146 from ni79_21 HI0.out) (nr_ HO142.out) (by decide)) hk (fun _ h => h.2)) (fun _ h => h.1)); replace BK144 := kk_ BK144 hk NB144_0; replace HK := Aside0.mk (KeepBut.trans (nk_ HK.out) hk (.inl rfl)); replace HB := Aside0.mk (hb); replace HI0 := Aside0.mk (hi); (try clear hb); (try clear hb2); (try clear hk); (try clear hi)))
   replace HO142 := Aside0.mk (Kd.R_drew HO142.out)
   replace BK138 := Aside0.mk (blk_drew BK138.out)
   replace BK144 := Aside0.mk (blk_drew BK144.out)
   replace HI0 := Aside0.mk (IsS79.drew HI0.out)
   replace HK := Aside0.mk (keep_drew HK.out)
   replace HB := Aside0.mk (below_drew1 HB.out)
   have p149 : 0 ≤ (t145 : Int) := of_decide_eq_true nx_
   have q149 : t145 < (t140.length : Int) := of_decide_eq_true nx_
   obtain ⟨ad149, e149, hx149_0, hx149_1, hx149_2, hx149_3, hx149_4⟩ := at_T54 (Kd.R_reads' HO142.out).2.2 t145 p149 q149
   cases e149
   replace p149 := eq_true p149
   replace q149 := eq_true q149
   refine start_ (n := 15) (S := fun w' => w'.cell? ⟨gb144, 0, none⟩ = some (.int .i64 t139) ∧ w'.cell? ⟨gb144, 1, none⟩ = some (.slice (some ad149) t140.length co17) ∧ w'.cell? (ad149.add ((t145).toNat * 5)) = some (.int .i64 ((rd_T54 t140 t145).f0)) ∧ w'.cell? ⟨(ad149.add ((t145).toNat * 5)).block, (ad149.add ((t145).toNat * 5)).off + 1, none⟩ = some (.int .i64 ((rd_T54 t140 t145).f1)) ∧ w'.cell? ⟨(ad149.add ((t145).toNat * 5)).block, (ad149.add ((t145).toNat * 5)).off + 2, none⟩ = some (.int .i64 ((rd_T54 t140 t145).f2)) ∧ w'.cell? ⟨(ad149.add ((t145).toNat * 5)).block, (ad149.add ((t145).toNat * 5)).off + 3, none⟩ = some (.int .i64 ((rd_T54 t140 t145).f3)) ∧ w'.cell? ⟨(ad149.add ((t145).toNat * 5)).block, (ad149.add ((t145).toNat * 5)).off + 4, none⟩ = some (.int .i64 ((rd_T54 t140 t145).f4))) (ds := [14]) (bm_ 15 0) (by kernel_rfl) rfl rfl ⟨ct_ BK144.out 0, ct_ BK144.out 1, hx149_0, hx149_1, hx149_2, hx149_3, hx149_4⟩ (fun hHeld => ?_); refine with_tabW spec_l30AnyNet.tab6 spec_l30AnyNet.bits6 (fun HT_ HW_ => ?_)
   generalize w19.drew = w20 at HO142 BK138 BK144 HI0 HK HB hx149_0 hx149_1 hx149_2 hx149_3 hx149_4 hHeld ⊢
   refine pu_ 0 20 (bm_ 15 1) HT_.out ?_
   refine pu_ 2 22 (bm_ 15 5) HT_.out ?_
   refine pu_ 3 23 (bm_ 15 13) HT_.out ?_
   refine pu_ 4 24 (bm_ 15 29) HT_.out ?_
   refine pu_ 6 26 (bm_ 15 93) HT_.out ?_
   refine tk_ 1 21 (bm_ 15 95) HT_.out HW_.out hHeld ?_
   refine tk_ 5 25 (bm_ 15 127) HT_.out HW_.out hHeld ?_
   refine pu_ 7 27 (bm_ 15 255) HT_.out ?_
   refine pu_ 8 28 (bm_ 15 511) HT_.out ?_
   refine tk_ 9 29 (bm_ 15 1023) HT_.out HW_.out hHeld ?_
   refine one_ (i := 10) (N := some 30) (bm_ 15 2047) rfl rfl (one_of HT_.out (by kernel_rfl)) (by decide) (fun K hK => ?_)
   refine ls_ 30 3 [(-1), 8, (rd_T54 t140 t145).f0] [.int .i64 (-1), .int .i64 8, .int .i64 ((rd_T54 t140 t145).f0)] ?_
   intro v151 w21 ho22 hb hg_ hnew_
   have HS2_ := (hb.cell (World.block_lt_of_cell? _ _ (hHeld.2.2.1))).trans (hHeld.2.2.1)
   have HS3_ := (hb.cell (World.block_lt_of_cell? _ _ (hHeld.2.2.2.1))).trans (hHeld.2.2.2.1)
   have HS4_ := (hb.cell (World.block_lt_of_cell? _ _ (hHeld.2.2.2.2.1))).trans (hHeld.2.2.2.2.1)
   have HS5_ := (hb.cell (World.block_lt_of_cell? _ _ (hHeld.2.2.2.2.2.1))).trans (hHeld.2.2.2.2.2.1)
   have HS6_ := (hb.cell (World.block_lt_of_cell? _ _ (hHeld.2.2.2.2.2.2))).trans (hHeld.2.2.2.2.2.2)
   clear hg_ hnew_
   (first | rw [← Ny150.out] at ho22 | (simp only [Int.reduceToNat] at ho22; rw [← Ny150.out] at ho22))
   replace HO142 := kR_ HO142 hb
   have HO152 := Aside0.mk (Kd.R_lower ho22 (keep_size (w := w) (g := g) (row := none) (nk_ HK.out)))
   replace BK138 := kb_ BK138 hb
   replace BK144 := kb_ BK144 hb
   replace HK := Aside0.mk (KeepBut.trans (nk_ HK.out) (KeepBut.of_below hb g none) (.inl rfl))
   replace HB := Aside0.mk (below_step (ng79_21 HB.out) hb)
   replace HI0 := Aside0.mk (IsS79.below (ni79_21 HI0.out) hb)
   clear hb ho22
   obtain ⟨Ao23, co23, eo23⟩ := Kd.R_slice HO152.out
   (first | subst eo23 | (injection eo23 with f1_ f2_ f3_; have f4_ := f1_.symm; have f5_ := f3_.symm; clear f1_ f2_ f3_; subst f4_; subst f5_))
   refine hK.out _ _ ⟨ct_ BK144.out 0, ct_ BK144.out 1, HS2_, HS3_, HS4_, HS5_, HS6_⟩ (fun hHeld => ?_)
   clear hK K
   refine nm1_ (some 30) ?_
   refine one_ (i := 11) (N := some 31) (bm_ 15 4095) rfl rfl (one_of HT_.out (by kernel_rfl)) (by decide) (fun K hK => ?_)
   refine go_ Tryd.func48 #[.pointer (some ⟨g, 0, none⟩), .slice Ao23 y150.length co23] ?_
   with_reducible refine (spec_l30Rd_one.calls k g s0_0 t148 _ _ y150 t153 t154 w0 _ ?side1 ?side2 ?side3 ?side4 ?side5 A9.out).mono ?_
   (case side1 => repeat (first | (with_reducible first | exact HI0.out | apply IsS79.alloc | apply IsS79.drewN | apply IsS79.drew | apply IsS79.set_1 | refine IsS79.far ?_ NB0_138.out _ | refine IsS79.far ?_ NB0_144.out _) | exact HI0.out))
   (case side2 => exact (ng79_21 HB.out))
   (case side3 => exact nc_ (Kd.R_reads' HO152.out).2.2)
   (case side4 => exact (Kd.R_reads' HO152.out).2.1)
   (case side5 => exact far_slice (IsS79.own_ne HI0.out HO152.out (by decide)))
   rintro e w24 ⟨rfl, hi, hb, hk⟩
   have HS2_ := keep_cell hk (hHeld.2.2.1) (by first | (rw [add_block]; exact Kd.own_blk (IsS79.own_ne HI0.out HO142.out (by decide))) | (show (Addr.add _ _).block ≠ _; rw [add_block]; exact Kd.own_blk (IsS79.own_ne HI0.out HO142.out (by decide))) | exact Kd.own_blk (IsS79.own_ne HI0.out HO142.out (by decide)))
   have HS3_ := keep_cell hk (hHeld.2.2.2.1) (by first | (rw [add_block]; exact Kd.own_blk (IsS79.own_ne HI0.out HO142.out (by decide))) | (show (Addr.add _ _).block ≠ _; rw [add_block]; exact Kd.own_blk (IsS79.own_ne HI0.out HO142.out (by decide))) | exact Kd.own_blk (IsS79.own_ne HI0.out HO142.out (by decide)))
   have HS4_ := keep_cell hk (hHeld.2.2.2.2.1) (by first | (rw [add_block]; exact Kd.own_blk (IsS79.own_ne HI0.out HO142.out (by decide))) | (show (Addr.add _ _).block ≠ _; rw [add_block]; exact Kd.own_blk (IsS79.own_ne HI0.out HO142.out (by decide))) | exact Kd.own_blk (IsS79.own_ne HI0.out HO142.out (by decide)))
   have HS5_ := keep_cell hk (hHeld.2.2.2.2.2.1) (by first | (rw [add_block]; exact Kd.own_blk (IsS79.own_ne HI0.out HO142.out (by decide))) | (show (Addr.add _ _).block ≠ _; rw [add_block]; exact Kd.own_blk (IsS79.own_ne HI0.out HO142.out (by decide))) | exact Kd.own_blk (IsS79.own_ne HI0.out HO142.out (by decide)))
   have HS6_ := keep_cell hk (hHeld.2.2.2.2.2.2) (by first | (rw [add_block]; exact Kd.own_blk (IsS79.own_ne HI0.out HO142.out (by decide))) | (show (Addr.add _ _).block ≠ _; rw [add_block]; exact Kd.own_blk (IsS79.own_ne HI0.out HO142.out (by decide))) | exact Kd.own_blk (IsS79.own_ne HI0.out HO142.out (by decide)))
   refine ⟨_, rfl, ?_⟩
   replace BK138 := kk_ BK138 hk NB138_0
   replace HO142 := Aside0.mk (Kd.R_mono (Kd.R_keep (IsS79.apart (show IsS79 w0 _ g s0_0 t148 from ni79_21 HI0.out) (nr_ HO142.out) (by decide)) hk (fun _ h => h.2)) (fun _ h => h.1))
   replace BK144 := kk_ BK144 hk NB144_0
   replace HO152 := Aside0.mk (Kd.R_mono (Kd.R_keep (IsS79.apart (show IsS79 w0 _ g s0_0 t148 from ni79_21 HI0.out) (nr_ HO152.out) (by decide)) hk (fun _ h => h.2)) (fun _ h => h.1))
   replace HK := Aside0.mk (KeepBut.trans (nk_ HK.out) hk (.inl rfl))
   replace HB := Aside0.mk (hb)
   replace HI0 := Aside0.mk (hi)
   (try clear hb)
   (try clear hb2)
   (try clear hk)
   (try clear hi)
   have p10 : 0 ≤ (t145 : Int) := of_decide_eq_true nx_
   have q10 : (t145 : Int) < ((t140.length : Int) : Int) := of_decide_eq_true nx_
   obtain ⟨go10, co10, eo10, gb10, gl10, cl10, HG10⟩ := Kd.R_form HO142.out (by omega)
   (first | cases eo10 | (injection eo10 with ea_ en_ ec_; (first | subst ea_ | (injection ea_ with ea_; subst ea_)); subst ec_; clear en_))
   have GB10 := Aside0.mk gb10
   have GG10 := Aside0.mk HG10
   clear gb10 gl10 HG10
   (first | simp only [add_plain] at hx149_0 | skip)
   (first | simp only [add_plain] at hx149_1 | skip)
   (first | simp only [add_plain] at hx149_2 | skip)
   (first | simp only [add_plain] at hx149_3 | skip)
   (first | simp only [add_plain] at hx149_4 | skip)
   obtain ⟨ce10, hcl10, hM10, hcc10, hfr10⟩ := Kd.R_elem HO142.out z54 (t145 : Int) p10 q10
   obtain rfl := k54_openM hM10
   have hx10_0 : World.cell? _ ⟨go10, (t145 : Int).toNat * 5, none⟩ = some (.int .i64 ((rd_T54 t140 t145).f0)) := hcc10 0 _ rfl
   have hx10_1 : World.cell? _ ⟨go10, (t145 : Int).toNat * 5 + 1, none⟩ = some (.int .i64 ((rd_T54 t140 t145).f1)) := hcc10 1 _ rfl
   have hx10_2 : World.cell? _ ⟨go10, (t145 : Int).toNat * 5 + 2, none⟩ = some (.int .i64 ((rd_T54 t140 t145).f2)) := hcc10 2 _ rfl
   have hx10_3 : World.cell? _ ⟨go10, (t145 : Int).toNat * 5 + 3, none⟩ = some (.int .i64 ((rd_T54 t140 t145).f3)) := hcc10 3 _ rfl
   have hx10_4 : World.cell? _ ⟨go10, (t145 : Int).toNat * 5 + 4, none⟩ = some (.int .i64 ((rd_T54 t140 t145).f4)) := hcc10 4 _ rfl
   have hf10_0 : World.frozen? _ ⟨go10, (t145 : Int).toNat * 5, none⟩ = false := hfr10 0
   have hf10_1 : World.frozen? _ ⟨go10, (t145 : Int).toNat * 5 + 1, none⟩ = false := hfr10 1
   have hf10_2 : World.frozen? _ ⟨go10, (t145 : Int).toNat * 5 + 2, none⟩ = false := hfr10 2
   have hf10_3 : World.frozen? _ ⟨go10, (t145 : Int).toNat * 5 + 3, none⟩ = false := hfr10 3
   have hf10_4 : World.frozen? _ ⟨go10, (t145 : Int).toNat * 5 + 4, none⟩ = false := hfr10 4
   clear hcl10 hcc10 hfr10 hM10
   replace p10 := eq_true p10
   replace q10 := eq_true q10
   have HN0_go10 := Aside0.mk (show g ≠ go10 from by have h_ := IsS79.own_ne HI0.out HO142.out (by decide); intro e_; exact h_ (by rw [e_]; rfl))
   obtain ⟨ce25, hcl25, hM25, hcc25, hfr25⟩ := Kd.R_elem HO142.out z54 (t145 : Int) (of_decide_eq_true nx_) (by have h_ : (t145 : Int) < ((t140.length : Int) : Int) := of_decide_eq_true nx_; first | exact h_ | (have e_ := (Kd.R_reads' HO142.out).1; omega) | simpa using h_)
   obtain rfl := k54_openM hM25
   have HP25 := (Kd.R_seg HO142.out (t145 : Int) (of_decide_eq_true nx_) (by have h_ : (t145 : Int) < ((t140.length : Int) : Int) := of_decide_eq_true nx_; first | exact h_ | (have e_ := (Kd.R_reads' HO142.out).1; omega) | simpa using h_) (seg := [.int .i64 t153]) (j := 1) hcl25 hcc25 (show 2 ≤ 5 from by decide) (x' := (⟨(rd_T54 t140 t145).f0, t153, (rd_T54 t140 t145).f2, (rd_T54 t140 t145).f3, (rd_T54 t140 t145).f4⟩ : S54)) (k54_mkM _ _ _ (⟨(rd_T54 t140 t145).f0, t153, (rd_T54 t140 t145).f2, (rd_T54 t140 t145).f3, (rd_T54 t140 t145).f4⟩ : S54) ) (fun _ hk => hk)).1
   rw [← Ny155.out] at HP25
   have HQ25 := Aside0.mk HP25
   clear hcl25 hcc25 hfr25 hM25 HP25
   refine hK.out _ _ ⟨ct_ BK144.out 0, ct_ BK144.out 1, HS2_, HS3_, HS4_, HS5_, HS6_⟩ (fun hHeld => ?_)
   clear hK K
   refine nm1_ (some 31) ?_
   refine pu_ 12 32 (bm_ 15 8191) HT_.out ?_
   refine pu_ 13 33 (bm_ 15 16383) HT_.out ?_
   refine last_ (i := 14) (N := none) (bm_ 15 32767) rfl rfl (one_of HT_.out (by kernel_rfl)) (by decide) (fun K hK => ?_)
   refine skip_ (w1 := ?_) (by rfl) rfl ?_ ?_
   rotate_left
   ·go_simp
    rfl
   refine hK.out _ _ ?_
   clear hK K
   refine done_ (done_of HT_.out (by kernel_rfl)) ?_
   have n0_ : Aside0 (Kd.R k54 54 (w24.setCell ⟨go10, (t145 : Int).toNat * 5 + 1, none⟩ (.int .i64 t153)) w.heap.size (fun _ => True) (.slice (some ⟨go10, 0, none⟩) t140.length co17) y155) := ⟨nr_ HQ25.out⟩
   have n1_ : Aside0 (Kd.R (Kd.int .i64) 3 (w24.setCell ⟨go10, (t145 : Int).toNat * 5 + 1, none⟩ (.int .i64 t153)) w.heap.size (fun _ => True) (.slice Ao23 y150.length co23) y150) := ⟨by (with_reducible repeat (first | apply Kd.R_alloc | apply Kd.R_drewN | apply Kd.R_drew)); exact Kd.R_mono (Kd.R_far (p := ⟨go10, (t145 : Int).toNat * 5 + 1, none⟩) (Kd.R_types HO152.out GG10.out (by decide)) (fun _ hk => hk.2) (.int .i64 t153)) (fun _ hk => trivial)⟩
   have n2_ : Aside0 ((w24.setCell ⟨go10, (t145 : Int).toNat * 5 + 1, none⟩ (.int .i64 t153)).heap[gb138]? = some (.cells #[.int .i64 0, .slice none 0 0] 25 (0, 0))) := ⟨by (with_reducible repeat (first | refine blk_drewN ?_ _ | refine blk_drew ?_ | refine blk_alloc ?_ _)); refine blk_far ?_ (by have h_ := Kd.R_ne HO142.out BK138.out (by decide); intro e_; exact h_ (by rw [e_]; rfl)) _; (with_reducible repeat (first | refine blk_drewN ?_ _ | refine blk_drew ?_ | refine blk_alloc ?_ _)); exact BK138.out⟩
   have n3_ : Aside0 ((w24.setCell ⟨go10, (t145 : Int).toNat * 5 + 1, none⟩ (.int .i64 t153)).heap[gb144]? = some (.cells #[.int .i64 t139, .slice (some ⟨go10, 0, none⟩) t140.length co17] 25 (0, 0))) := ⟨by (with_reducible repeat (first | refine blk_drewN ?_ _ | refine blk_drew ?_ | refine blk_alloc ?_ _)); refine blk_far ?_ (by have h_ := Kd.R_ne HO142.out BK144.out (by decide); intro e_; exact h_ (by rw [e_]; rfl)) _; (with_reducible repeat (first | refine blk_drewN ?_ _ | refine blk_drew ?_ | refine blk_alloc ?_ _)); exact BK144.out⟩
   have n4_ : Aside0 (IsS79 w0 (w24.setCell ⟨go10, (t145 : Int).toNat * 5 + 1, none⟩ (.int .i64 t153)) g s0_0 t154) := ⟨ni79_21 HI0.out⟩
   have n5_ : Aside0 (KeepBut w (w24.setCell ⟨go10, (t145 : Int).toNat * 5 + 1, none⟩ (.int .i64 t153)) g none) := ⟨nk_ HK.out⟩
   have n6_ : Aside0 (Below w0.heap.size w0 (w24.setCell ⟨go10, (t145 : Int).toNat * 5 + 1, none⟩ (.int .i64 t153))) := ⟨by repeat (first | (with_reducible first | exact HB.out | apply below_alloc | apply pw_below_drewN | apply below_drew1 | refine below_set ?_ (Nat.le_trans HL.out GB10.out) | refine below_set ?_ (IsS79.ge HI0.out) | refine below_set ?_ GE138.out | refine below_set ?_ GE144.out) | exact HB.out)⟩
   (try clear HO142)
   (try clear HO152)
   (try clear BK138)
   (try clear BK144)
   (try clear HI0)
   (try clear HK)
   (try clear HB)
   generalize (w24.setCell ⟨go10, (t145 : Int).toNat * 5 + 1, none⟩ (.int .i64 t153)) = w26 at n0_ n1_ n2_ n3_ n4_ n5_ n6_ ⊢
   have HO142 := n0_
   have HO152 := n1_
   have BK138 := n2_
   have BK144 := n3_
   have HI0 := n4_
   have HK := n5_
   have HB := n6_
   clear n0_ n1_ n2_ n3_ n4_ n5_ n6_
   obtain ⟨hcz27_0, hcz27_1, hfz27_0, hfz27_1⟩ := cz2_ BK144.out
   have hnb28 := NB138_0.out
   have hnc28 := NB0_138.out
   obtain ⟨hcz29_0, hcz29_1, hfz29_0, hfz29_1⟩ := cz2_ BK138.out
   try go_wp2
   refine bodyPost_ret (results_cell_row rfl _ _ gb138 25 #[.int .i64 t139, .slice (some ⟨go10, 0, none⟩) t140.length co17] (0, 0) _ rfl (np_ BK138.out) Tryd.underlying25 rfl (by kernel_rfl)) rfl ?_
   exact ⟨_, nw_, by (with_reducible repeat (first | apply Kd.R_alloc | apply Kd.R_drewN | apply Kd.R_drew)); exact Kd.R_mono (rf2_ (Kd.R_types HO142.out BK138.out (by decide))) (fun _ hk => trivial), ni79_21 HI0.out, by repeat (first | (with_reducible first | exact HB.out | apply below_alloc | apply pw_below_drewN | apply below_drew1 | refine below_set ?_ (IsS79.ge HI0.out) | refine below_set ?_ GE138.out | refine below_set ?_ GE144.out) | exact HB.out), nk_ HK.out⟩
  rw [if_neg c6] at H
  have c6b0 : (t147 == 0) = false := beq_eq_false_iff_ne.mpr c6
  have c6b1 : (t147 != 0) = true := bne_iff_ne.mpr c6
  by_cases c30 : t147 = 1
  rotate_left
  ·rw [if_neg c30] at H
   have c30b0 : (t147 == 1) = false := beq_eq_false_iff_ne.mpr c30
   have c30b1 : (t147 != 1) = true := bne_iff_ne.mpr c30
   by_cases c54 : t147 = 2
   rotate_left
   ·rw [if_neg c54] at H
    have c54b0 : (t147 == 2) = false := beq_eq_false_iff_ne.mpr c54
    have c54b1 : (t147 != 2) = true := bne_iff_ne.mpr c54
    simp only [Option.some.injEq, Prod.mk.injEq] at H
    obtain ⟨rfl, rfl, rfl⟩ := H
    go_enter Tryd.func21, Tryd.ntmps21
    go_wp2_with (first | ((with_reducible refine gate_dst (N := 2) rfl ?_); refine bx_ 2 #[.int .i64 0, .slice none 0 0] 25 ?_; intro gb138 hg w72 hbox hb; have BK138 := Aside0.mk (hbox); have GW138 := Aside0.mk (zk_ hg (nk_ HK.out)); have GE138 := Aside0.mk ((Nat.le_trans HW0.out (by rw [hg]; exact (keep_size (w := w) (g := g) (row := none) (nk_ HK.out)) : w.heap.size ≤ gb138) : w0.heap.size ≤ gb138)); have NB0_138 := Aside0.mk ((by rw [hg]; exact Nat.ne_of_lt (IsS79.lt (show IsS79 w0 _ g s0_0 s0_1 from ni79_21 HI0.out)) : g ≠ gb138)); have NB138_0 := Aside0.mk ((by rw [hg]; exact Nat.ne_of_gt (IsS79.lt (show IsS79 w0 _ g s0_0 s0_1 from ni79_21 HI0.out)) : gb138 ≠ g)); replace HI0 := Aside0.mk (IsS79.below (ni79_21 HI0.out) hb); replace HK := Aside0.mk (KeepBut.trans (nk_ HK.out) (KeepBut.of_below hb g none) (.inl rfl)); replace HB := Aside0.mk (below_step (ng79_21 HB.out) hb); clear hb hbox hg) | ((with_reducible refine gate_callee (f := 38) rfl ?_); refine gl_ (some 6) Tryd.func38 #[.pointer (some ⟨g, 0, none⟩)] ?_; (with_reducible refine (spec_l30Net.calls k g s0_0 s0_1 t139 t140 t143 w0 _ ?side1 ?side2 A2.out).mono ?_); (case side1 => repeat (first | (with_reducible first | exact HI0.out | apply IsS79.alloc | apply IsS79.drewN | apply IsS79.drew | apply IsS79.set_1 | refine IsS79.far ?_ NB0_138.out _) | exact HI0.out)); (case side2 => exact (ng79_21 HB.out)); rintro e w73 ⟨v141, rfl, ho0, hi, hb, hk⟩; refine ⟨_, rfl, ?_⟩; have HO142 := Aside0.mk (Kd.R_lower ho0 (keep_size (w := w) (g := g) (row := none) (nk_ HK.out))); replace BK138 := kk_ BK138 hk NB138_0; replace HK := Aside0.mk (KeepBut.trans (nk_ HK.out) hk (.inl rfl)); replace HB := Aside0.mk (hb); replace HI0 := Aside0.mk (hi); (try clear hb); (try clear hb2); (try clear hk); (try clear hi); (try clear ho0)) | ((with_reducible refine gate_dst (N := 3) rfl ?_); refine bx_ 3 #[.int .i64 0, .slice none 0 0] 25 ?_; intro gb144 hg w74 hbox hb; have BK144 := Aside0.mk (hbox); have GW144 := Aside0.mk (zk_ hg (nk_ HK.out)); have GE144 := Aside0.mk ((Nat.le_trans HW0.out (by rw [hg]; exact (keep_size (w := w) (g := g) (row := none) (nk_ HK.out)) : w.heap.size ≤ gb144) : w0.heap.size ≤ gb144)); have NB138_144 := Aside0.mk (nl_ BK138.out hg); have NB144_138 := Aside0.mk (nm_ BK138.out hg); have NB0_144 := Aside0.mk ((by rw [hg]; exact Nat.ne_of_lt (IsS79.lt (show IsS79 w0 _ g s0_0 t143 from ni79_21 HI0.out)) : g ≠ gb144)); have NB144_0 := Aside0.mk ((by rw [hg]; exact Nat.ne_of_gt (IsS79.lt (show IsS79 w0 _ g s0_0 t143 from ni79_21 HI0.out)) : gb144 ≠ g)); replace HO142 := kR_ HO142 hb; replace HI0 := Aside0.mk (IsS79.below (ni79_21 HI0.out) hb); replace BK138 := kb_ BK138 hb; replace HK := Aside0.mk (KeepBut.trans (nk_ HK.out) (KeepBut.of_below hb g none) (.inl rfl)); replace HB := Aside0.mk (below_step (ng79_21 HB.out) hb); clear hb hbox hg; have hnb75 := NB144_138.out; have hnc75 := NB138_144.out; have hnb76 := NB144_0.out; have hnc76 := NB0_144.out; obtain ⟨hcz77_0, hcz77_1, hfz77_0, hfz77_1⟩ := cz2_ BK144.out; obtain ⟨Ao78, co78, eo78⟩ := Kd.R_slice HO142.out; subst eo78) | ((with_reducible refine gate_callee (f := 39) rfl ?_); refine gl_ (some 15) Tryd.func39 #[.pointer (some ⟨g, 0, none⟩), .int .i64 (t140.length : Int)] ?_; (with_reducible refine (spec_l30Rd_pick.calls k g s0_0 t143 (t140.length : Int) t145 t146 w0 _ ?side1 ?side2 A4.out).mono ?_); (case side1 => repeat (first | (with_reducible first | exact HI0.out | apply IsS79.alloc | apply IsS79.drewN | apply IsS79.drew | apply IsS79.set_1 | refine IsS79.far ?_ NB0_138.out _ | refine IsS79.far ?_ NB0_144.out _) | exact HI0.out)); (case side2 => exact (ng79_21 HB.out)); rintro e w79 ⟨rfl, hi, hb, hk⟩; refine ⟨_, rfl, ?_⟩; replace BK138 := Aside0.mk (KeepBut.blk hk (g' := gb138) (o := .cells #[.int .i64 0, .slice none 0 0] 25 (0, 0)) (nbf_ BK138.out) NB138_0.out (by simp)); replace HO142 := Aside0.mk (Kd.R_mono (Kd.R_keep (IsS79.apart (show IsS79 w0 _ g s0_0 t143 from ni79_21 HI0.out) (by (with_reducible repeat (first | apply Kd.R_alloc | apply Kd.R_drewN | apply Kd.R_drew)); exact (Kd.R_mono (rf2_ (Kd.R_types HO142.out BK144.out (by decide))) (fun _ h_ => h_.1))) (by decide)) hk (fun _ h => h.2)) (fun _ h => h.1)); replace BK144 := Aside0.mk (KeepBut.blk hk (g' := gb144) (o := .cells #[.int .i64 t139, .slice Ao78 t140.length co78] 25 (0, 0)) (np_ BK144.out) NB144_0.out (by simp)); replace HK := Aside0.mk (KeepBut.trans (nk_ HK.out) hk (.inl rfl)); replace HB := Aside0.mk (hb); replace HI0 := Aside0.mk (hi); (try clear hb); (try clear hb2); (try clear hk); (try clear hi)) | ((with_reducible refine gate_callee (f := 39) rfl ?_); refine gl_ (some 17) Tryd.func39 #[.pointer (some ⟨g, 0, none⟩), .int .i64 16] ?_; (with_reducible refine (spec_l30Rd_pick.calls k g s0_0 t146 16 t147 t148 w0 _ ?side1 ?side2 A5.out).mono ?_); (case side1 => repeat (first | (with_reducible first | exact HI0.out | apply IsS79.alloc | apply IsS79.drewN | apply IsS79.drew | apply IsS79.set_1 | refine IsS79.far ?_ NB0_138.out _ | refine IsS79.far ?_ NB0_144.out _) | exact HI0.out)); (case side2 => exact (ng79_21 HB.out)); rintro e w80 ⟨rfl, hi, hb, hk⟩; refine ⟨_, rfl, ?_⟩; replace BK138 := kk_ BK138 hk NB138_0; replace HO142 := Aside0.mk (Kd.R_mono (Kd.R_keep (IsS79.apart (show IsS79 w0 _ g s0_0 t146 from ni79_21 HI0.out) (nr_ HO142.out) (by decide)) hk (fun _ h => h.2)) (fun _ h => h.1)); replace BK144 := kk_ BK144 hk NB144_0; replace HK := Aside0.mk (KeepBut.trans (nk_ HK.out) hk (.inl rfl)); replace HB := Aside0.mk (hb); replace HI0 := Aside0.mk (hi); (try clear hb); (try clear hb2); (try clear hk); (try clear hi); obtain ⟨hcz81_0, hcz81_1, hfz81_0, hfz81_1⟩ := cz2_ BK144.out; have hnb82 := NB138_0.out; have hnc82 := NB0_138.out; obtain ⟨hcz83_0, hcz83_1, hfz83_0, hfz83_1⟩ := cz2_ BK138.out))
    refine bodyPost_ret (results_cell_row rfl _ _ gb138 25 #[.int .i64 t139, .slice Ao78 t140.length co78] (0, 0) _ rfl (np_ BK138.out) Tryd.underlying25 rfl (by kernel_rfl)) rfl ?_
    exact ⟨_, nw_, by (with_reducible repeat (first | apply Kd.R_alloc | apply Kd.R_drewN | apply Kd.R_drew)); exact Kd.R_mono (rf2_ (Kd.R_types HO142.out BK138.out (by decide))) (fun _ hk => trivial), ni79_21 HI0.out, by repeat (first | (with_reducible first | exact HB.out | apply below_alloc | apply pw_below_drewN | apply below_drew1 | refine below_set ?_ (IsS79.ge HI0.out) | refine below_set ?_ GE138.out | refine below_set ?_ GE144.out) | exact HB.out), nk_ HK.out⟩
   rw [if_pos c54] at H
   have c54b0 : (t147 == 2) = true := beq_iff_eq.mpr c54
   have c54b1 : (t147 != 2) = false := bne_eq_false_iff_eq.mpr c54
   clear c54
   obtain ⟨y162, hy162⟩ : ∃ y_ : List Int, y_ = (([0, 1, 9, 8] : List Int)) := ⟨_, rfl⟩
   replace H : ((spec_l30Rd_one.f k s0_0 t148 y162).bind fun bt165 => (some (bt165.1, t140, bt165.2))) = some (r1, r2, r3) := by first | (rw [hy162]; with_reducible exact H) | (have H2_ := (Option.bind_some _ _).symm.trans H; rw [hy162]; with_reducible exact H2_) | (have H2_ := (Option.bind_some _ _).symm.trans H; with_reducible exact H2_) | with_reducible exact H | (rw [hy162]; exact H) | exact H
   have Ny162 := Aside0.mk hy162
   clear hy162
   replace H := Option.bind_eq_some_iff.mp H
   obtain ⟨⟨t165, t166⟩, A550, H⟩ := H
   replace H : (some (t165, t140, t166)) = some (r1, r2, r3) := H
   have A55 := Aside0.mk A550
   clear A550
   simp only [Option.some.injEq, Prod.mk.injEq] at H
   obtain ⟨rfl, rfl, rfl⟩ := H
   go_enter Tryd.func21, Tryd.ntmps21
   go_wp2_with (first | ((with_reducible refine gate_dst (N := 2) rfl ?_); refine bx_ 2 #[.int .i64 0, .slice none 0 0] 25 ?_; intro gb138 hg w56 hbox hb; have BK138 := Aside0.mk (hbox); have GW138 := Aside0.mk (zk_ hg (nk_ HK.out)); have GE138 := Aside0.mk ((Nat.le_trans HW0.out (by rw [hg]; exact (keep_size (w := w) (g := g) (row := none) (nk_ HK.out)) : w.heap.size ≤ gb138) : w0.heap.size ≤ gb138)); have NB0_138 := Aside0.mk ((by rw [hg]; exact Nat.ne_of_lt (IsS79.lt (show IsS79 w0 _ g s0_0 s0_1 from ni79_21 HI0.out)) : g ≠ gb138)); have NB138_0 := Aside0.mk ((by rw [hg]; exact Nat.ne_of_gt (IsS79.lt (show IsS79 w0 _ g s0_0 s0_1 from ni79_21 HI0.out)) : gb138 ≠ g)); replace HI0 := Aside0.mk (IsS79.below (ni79_21 HI0.out) hb); replace HK := Aside0.mk (KeepBut.trans (nk_ HK.out) (KeepBut.of_below hb g none) (.inl rfl)); replace HB := Aside0.mk (below_step (ng79_21 HB.out) hb); clear hb hbox hg) | ((with_reducible refine gate_callee (f := 38) rfl ?_); refine gl_ (some 6) Tryd.func38 #[.pointer (some ⟨g, 0, none⟩)] ?_; (with_reducible refine (spec_l30Net.calls k g s0_0 s0_1 t139 t140 t143 w0 _ ?side1 ?side2 A2.out).mono ?_); (case side1 => repeat (first | (with_reducible first | exact HI0.out | apply IsS79.alloc | apply IsS79.drewN | apply IsS79.drew | apply IsS79.set_1 | refine IsS79.far ?_ NB0_138.out _) | exact HI0.out)); (case side2 => exact (ng79_21 HB.out)); rintro e w57 ⟨v141, rfl, ho0, hi, hb, hk⟩; refine ⟨_, rfl, ?_⟩; have HO142 := Aside0.mk (Kd.R_lower ho0 (keep_size (w := w) (g := g) (row := none) (nk_ HK.out))); replace BK138 := kk_ BK138 hk NB138_0; replace HK := Aside0.mk (KeepBut.trans (nk_ HK.out) hk (.inl rfl)); replace HB := Aside0.mk (hb); replace HI0 := Aside0.mk (hi); (try clear hb); (try clear hb2); (try clear hk); (try clear hi); (try clear ho0)) | ((with_reducible refine gate_dst (N := 3) rfl ?_); refine bx_ 3 #[.int .i64 0, .slice none 0 0] 25 ?_; intro gb144 hg w58 hbox hb; have BK144 := Aside0.mk (hbox); have GW144 := Aside0.mk (zk_ hg (nk_ HK.out)); have GE144 := Aside0.mk ((Nat.le_trans HW0.out (by rw [hg]; exact (keep_size (w := w) (g := g) (row := none) (nk_ HK.out)) : w.heap.size ≤ gb144) : w0.heap.size ≤ gb144)); have NB138_144 := Aside0.mk (nl_ BK138.out hg); have NB144_138 := Aside0.mk (nm_ BK138.out hg); have NB0_144 := Aside0.mk ((by rw [hg]; exact Nat.ne_of_lt (IsS79.lt (show IsS79 w0 _ g s0_0 t143 from ni79_21 HI0.out)) : g ≠ gb144)); have NB144_0 := Aside0.mk ((by rw [hg]; exact Nat.ne_of_gt (IsS79.lt (show IsS79 w0 _ g s0_0 t143 from ni79_21 HI0.out)) : gb144 ≠ g)); replace HO142 := kR_ HO142 hb; replace HI0 := Aside0.mk (IsS79.below (ni79_21 HI0.out) hb); replace BK138 := kb_ BK138 hb; replace HK := Aside0.mk (KeepBut.trans (nk_ HK.out) (KeepBut.of_below hb g none) (.inl rfl)); replace HB := Aside0.mk (below_step (ng79_21 HB.out) hb); clear hb hbox hg; have hnb59 := NB144_138.out; have hnc59 := NB138_144.out; have hnb60 := NB144_0.out; have hnc60 := NB0_144.out; obtain ⟨hcz61_0, hcz61_1, hfz61_0, hfz61_1⟩ := cz2_ BK144.out; obtain ⟨Ao62, co62, eo62⟩ := Kd.R_slice HO142.out; subst eo62) | ((with_reducible refine gate_callee (f := 39) rfl ?_); refine gl_ (some 15) Tryd.func39 #[.pointer (some ⟨g, 0, none⟩), .int .i64 (t140.length : Int)] ?_; (with_reducible refine (spec_l30Rd_pick.calls k g s0_0 t143 (t140.length : Int) t145 t146 w0 _ ?side1 ?side2 A4.out).mono ?_); (case side1 => repeat (first | (with_reducible first | exact HI0.out | apply IsS79.alloc | apply IsS79.drewN | apply IsS79.drew | apply IsS79.set_1 | refine IsS79.far ?_ NB0_138.out _ | refine IsS79.far ?_ NB0_144.out _) | exact HI0.out)); (case side2 => exact (ng79_21 HB.out)); rintro e w63 ⟨rfl, hi, hb, hk⟩; refine ⟨_, rfl, ?_⟩; replace BK138 := Aside0.mk (KeepBut.blk hk (g' := gb138) (o := .cells #[.int .i64 0, .slice none 0 0] 25 (0, 0)) (nbf_ BK138.out) NB138_0.out (by simp)); replace HO142 := Aside0.mk (Kd.R_mono (Kd.R_keep (IsS79.apart (show IsS79 w0 _ g s0_0 t143 from ni79_21 HI0.out) (by (with_reducible repeat (first | apply Kd.R_alloc | apply Kd.R_drewN | apply Kd.R_drew)); exact (Kd.R_mono (rf2_ (Kd.R_types HO142.out BK144.out (by decide))) (fun _ h_ => h_.1))) (by decide)) hk (fun _ h => h.2)) (fun _ h => h.1)); replace BK144 := Aside0.mk (KeepBut.blk hk (g' := gb144) (o := .cells #[.int .i64 t139, .slice Ao62 t140.length co62] 25 (0, 0)) (np_ BK144.out) NB144_0.out (by simp)); replace HK := Aside0.mk (KeepBut.trans (nk_ HK.out) hk (.inl rfl)); replace HB := Aside0.mk (hb); replace HI0 := Aside0.mk (hi); (try clear hb); (try clear hb2); (try clear hk); (try clear hi)) | ((with_reducible refine gate_callee (f := 39) rfl ?_); refine gl_ (some 17) Tryd.func39 #[.pointer (some ⟨g, 0, none⟩), .int .i64 16] ?_; (with_reducible refine (spec_l30Rd_pick.calls k g s0_0 t146 16 t147 t148 w0 _ ?side1 ?side2 A5.out).mono ?_); (case side1 => repeat (first | (with_reducible first | exact HI0.out | apply IsS79.alloc | apply IsS79.drewN | apply IsS79.drew | apply IsS79.set_1 | refine IsS79.far ?_ NB0_138.out _ | refine IsS79.far ?_ NB0_144.out _) | exact HI0.out)); (case side2 => exact (ng79_21 HB.out)); rintro e w64 ⟨rfl, hi, hb, hk⟩; refine ⟨_, rfl, ?_⟩; replace BK138 := kk_ BK138 hk NB138_0; replace HO142 := Aside0.mk (Kd.R_mono (Kd.R_keep (IsS79.apart (show IsS79 w0 _ g s0_0 t146 from ni79_21 HI0.out) (nr_ HO142.out) (by decide)) hk (fun _ h => h.2)) (fun _ h => h.1)); replace BK144 := kk_ BK144 hk NB144_0; replace HK := Aside0.mk (KeepBut.trans (nk_ HK.out) hk (.inl rfl)); replace HB := Aside0.mk (hb); replace HI0 := Aside0.mk (hi); (try clear hb); (try clear hb2); (try clear hk); (try clear hi)) | ((with_reducible refine gate_dst (N := 47) rfl ?_); refine li_ 47 3 [0, 1, 9, 8] [.int .i64 0, .int .i64 1, .int .i64 9, .int .i64 8] ?_; intro v163 w65 ho66 hb hg_ hnew_; clear hg_ hnew_; (first | rw [← Ny162.out] at ho66 | (simp only [Int.reduceToNat] at ho66; rw [← Ny162.out] at ho66)); have HO164 := Aside0.mk (Kd.R_lower ho66 (keep_size (w := w) (g := g) (row := none) (nk_ HK.out))); replace HO142 := kR_ HO142 hb; replace HI0 := Aside0.mk (IsS79.below (ni79_21 HI0.out) hb); replace BK138 := kb_ BK138 hb; replace BK144 := kb_ BK144 hb; replace HK := Aside0.mk (KeepBut.trans (nk_ HK.out) (KeepBut.of_below hb g none) (.inl rfl)); replace HB := Aside0.mk (below_step (ng79_21 HB.out) hb); clear hb ho66; obtain ⟨Ao67, co67, eo67⟩ := Kd.R_slice HO164.out; subst eo67) | ((with_reducible refine gate_callee (f := 48) rfl ?_); refine gl_ (some 48) Tryd.func48 #[.pointer (some ⟨g, 0, none⟩), .slice Ao67 y162.length co67] ?_; (with_reducible refine (spec_l30Rd_one.calls k g s0_0 t148 _ _ y162 t165 t166 w0 _ ?side1 ?side2 ?side3 ?side4 ?side5 A55.out).mono ?_); (case side1 => repeat (first | (with_reducible first | exact HI0.out | apply IsS79.alloc | apply IsS79.drewN | apply IsS79.drew | apply IsS79.set_1 | refine IsS79.far ?_ NB0_138.out _ | refine IsS79.far ?_ NB0_144.out _) | exact HI0.out)); (case side2 => exact (ng79_21 HB.out)); (case side3 => exact nc_ (Kd.R_reads' HO164.out).2.2); (case side4 => exact (Kd.R_reads' HO164.out).2.1); (case side5 => exact far_slice (IsS79.own_ne HI0.out HO164.out (by decide))); rintro e w68 ⟨rfl, hi, hb, hk⟩; refine ⟨_, rfl, ?_⟩; replace BK138 := kk_ BK138 hk NB138_0; replace HO142 := Aside0.mk (Kd.R_mono (Kd.R_keep (IsS79.apart (show IsS79 w0 _ g s0_0 t148 from ni79_21 HI0.out) (nr_ HO142.out) (by decide)) hk (fun _ h => h.2)) (fun _ h => h.1)); replace BK144 := kk_ BK144 hk NB144_0; replace HO164 := Aside0.mk (Kd.R_mono (Kd.R_keep (IsS79.apart (show IsS79 w0 _ g s0_0 t148 from ni79_21 HI0.out) (nr_ HO164.out) (by decide)) hk (fun _ h => h.2)) (fun _ h => h.1)); replace HK := Aside0.mk (KeepBut.trans (nk_ HK.out) hk (.inl rfl)); replace HB := Aside0.mk (hb); replace HI0 := Aside0.mk (hi); (try clear hb); (try clear hb2); (try clear hk); (try clear hi); obtain ⟨hcz69_0, hcz69_1, hfz69_0, hfz69_1⟩ := cz2_ BK144.out; have hnb70 := NB138_0.out; have hnc70 := NB0_138.out; obtain ⟨hcz71_0, hcz71_1, hfz71_0, hfz71_1⟩ := cz2_ BK138.out))
   refine bodyPost_ret (results_cell_row rfl _ _ gb138 25 #[.int .i64 t165, .slice Ao62 t140.length co62] (0, 0) _ rfl (np_ BK138.out) Tryd.underlying25 rfl (by kernel_rfl)) rfl ?_
   exact ⟨_, nw_, by (with_reducible repeat (first | apply Kd.R_alloc | apply Kd.R_drewN | apply Kd.R_drew)); exact Kd.R_mono (rf2_ (Kd.R_far (p := ⟨gb144, 0, none⟩) (Kd.R_types (Kd.R_types HO142.out BK144.out (by decide)) BK138.out (by decide)) (fun _ hk => hk.1.2) (.int .i64 t165))) (fun _ hk => trivial), ni79_21 HI0.out, by repeat (first | (with_reducible first | exact HB.out | apply below_alloc | apply pw_below_drewN | apply below_drew1 | refine below_set ?_ (IsS79.ge HI0.out) | refine below_set ?_ GE138.out | refine below_set ?_ GE144.out) | exact HB.out), nk_ HK.out⟩
  rw [if_pos c30] at H
  have c30b0 : (t147 == 1) = true := beq_iff_eq.mpr c30
  have c30b1 : (t147 != 1) = false := bne_eq_false_iff_eq.mpr c30
  clear c30
  obtain ⟨y156, hy156⟩ : ∃ y_ : List Int, y_ = (([(-1), 100] : List Int)) := ⟨_, rfl⟩
  replace H : ((spec_l30Rd_one.f k s0_0 t148 y156).bind fun bt159 => (if 0 ≤ t145 then (if t145 < (t140.length : Int) then (some (t139, (t140.set (t145 : Int).toNat (⟨(rd_T54 t140 t145).f0, (rd_T54 t140 t145).f1, bt159.1, (rd_T54 t140 t145).f3, (rd_T54 t140 t145).f4⟩ : S54)), bt159.2)) else (none)) else (none))) = some (r1, r2, r3) := by first | (rw [hy156]; with_reducible exact H) | (have H2_ := (Option.bind_some _ _).symm.trans H; rw [hy156]; with_reducible exact H2_) | (have H2_ := (Option.bind_some _ _).symm.trans H; with_reducible exact H2_) | with_reducible exact H | (rw [hy156]; exact H) | exact H
  have Ny156 := Aside0.mk hy156
  clear hy156
  replace H := Option.bind_eq_some_iff.mp H
  obtain ⟨⟨t159, t160⟩, A310, H⟩ := H
  try dsimp only at H
  have A31 := Aside0.mk A310
  clear A310
  by_cases c32 : 0 ≤ t145
  rotate_left
  ·rw [if_neg c32] at H
   exact absurd H (by simp)
  rw [if_pos c32] at H
  have c32b0 : decide (0 ≤ t145) = true := decide_eq_true c32
  clear c32
  by_cases c33 : t145 < (t140.length : Int)
  rotate_left
  ·rw [if_neg c33] at H
   exact absurd H (by simp)
  rw [if_pos c33] at H
  have c33b0 : decide (t145 < (t140.length : Int)) = true := decide_eq_true c33
  clear c33
  obtain ⟨y161, hy161⟩ : ∃ y_ : List (S54), y_ = (t140.set (t145 : Int).toNat (⟨(rd_T54 t140 t145).f0, (rd_T54 t140 t145).f1, t159, (rd_T54 t140 t145).f3, (rd_T54 t140 t145).f4⟩ : S54)) := ⟨_, rfl⟩
  replace H : (some (t139, y161, t160)) = some (r1, r2, r3) := by first | (rw [hy161]; with_reducible exact H) | (have H2_ := (Option.bind_some _ _).symm.trans H; rw [hy161]; with_reducible exact H2_) | (have H2_ := (Option.bind_some _ _).symm.trans H; with_reducible exact H2_) | with_reducible exact H | (rw [hy161]; exact H) | exact H
  have Ny161 := Aside0.mk hy161
  clear hy161
  simp only [Option.some.injEq, Prod.mk.injEq] at H
  obtain ⟨rfl, rfl, rfl⟩ := H
  go_enter Tryd.func21, Tryd.ntmps21
  try go_wp2_with (first | ((with_reducible refine gate_dst (N := 2) rfl ?_); refine bx_ 2 #[.int .i64 0, .slice none 0 0] 25 ?_; intro gb138 hg w35 hbox hb; have BK138 := Aside0.mk (hbox); have GW138 := Aside0.mk (zk_ hg (nk_ HK.out)); have GE138 := Aside0.mk ((Nat.le_trans HW0.out (by rw [hg]; exact (keep_size (w := w) (g := g) (row := none) (nk_ HK.out)) : w.heap.size ≤ gb138) : w0.heap.size ≤ gb138)); have NB0_138 := Aside0.mk ((by rw [hg]; exact Nat.ne_of_lt (IsS79.lt (show IsS79 w0 _ g s0_0 s0_1 from ni79_21 HI0.out)) : g ≠ gb138)); have NB138_0 := Aside0.mk ((by rw [hg]; exact Nat.ne_of_gt (IsS79.lt (show IsS79 w0 _ g s0_0 s0_1 from ni79_21 HI0.out)) : gb138 ≠ g)); replace HI0 := Aside0.mk (IsS79.below (ni79_21 HI0.out) hb); replace HK := Aside0.mk (KeepBut.trans (nk_ HK.out) (KeepBut.of_below hb g none) (.inl rfl)); replace HB := Aside0.mk (below_step (ng79_21 HB.out) hb); clear hb hbox hg) | ((with_reducible refine gate_callee (f := 38) rfl ?_); refine gl_ (some 6) Tryd.func38 #[.pointer (some ⟨g, 0, none⟩)] ?_; (with_reducible refine (spec_l30Net.calls k g s0_0 s0_1 t139 t140 t143 w0 _ ?side1 ?side2 A2.out).mono ?_); (case side1 => repeat (first | (with_reducible first | exact HI0.out | apply IsS79.alloc | apply IsS79.drewN | apply IsS79.drew | apply IsS79.set_1 | refine IsS79.far ?_ NB0_138.out _) | exact HI0.out)); (case side2 => exact (ng79_21 HB.out)); rintro e w36 ⟨v141, rfl, ho0, hi, hb, hk⟩; refine ⟨_, rfl, ?_⟩; have HO142 := Aside0.mk (Kd.R_lower ho0 (keep_size (w := w) (g := g) (row := none) (nk_ HK.out))); replace BK138 := kk_ BK138 hk NB138_0; replace HK := Aside0.mk (KeepBut.trans (nk_ HK.out) hk (.inl rfl)); replace HB := Aside0.mk (hb); replace HI0 := Aside0.mk (hi); (try clear hb); (try clear hb2); (try clear hk); (try clear hi); (try clear ho0)) | ((with_reducible refine gate_dst (N := 3) rfl ?_); refine bx_ 3 #[.int .i64 0, .slice none 0 0] 25 ?_; intro gb144 hg w37 hbox hb; have BK144 := Aside0.mk (hbox); have GW144 := Aside0.mk (zk_ hg (nk_ HK.out)); have GE144 := Aside0.mk ((Nat.le_trans HW0.out (by rw [hg]; exact (keep_size (w := w) (g := g) (row := none) (nk_ HK.out)) : w.heap.size ≤ gb144) : w0.heap.size ≤ gb144)); have NB138_144 := Aside0.mk (nl_ BK138.out hg); have NB144_138 := Aside0.mk (nm_ BK138.out hg); have NB0_144 := Aside0.mk ((by rw [hg]; exact Nat.ne_of_lt (IsS79.lt (show IsS79 w0 _ g s0_0 t143 from ni79_21 HI0.out)) : g ≠ gb144)); have NB144_0 := Aside0.mk ((by rw [hg]; exact Nat.ne_of_gt (IsS79.lt (show IsS79 w0 _ g s0_0 t143 from ni79_21 HI0.out)) : gb144 ≠ g)); replace HO142 := kR_ HO142 hb; replace HI0 := Aside0.mk (IsS79.below (ni79_21 HI0.out) hb); replace BK138 := kb_ BK138 hb; replace HK := Aside0.mk (KeepBut.trans (nk_ HK.out) (KeepBut.of_below hb g none) (.inl rfl)); replace HB := Aside0.mk (below_step (ng79_21 HB.out) hb); clear hb hbox hg; have hnb38 := NB144_138.out; have hnc38 := NB138_144.out; have hnb39 := NB144_0.out; have hnc39 := NB0_144.out; obtain ⟨hcz40_0, hcz40_1, hfz40_0, hfz40_1⟩ := cz2_ BK144.out; obtain ⟨Ao41, co41, eo41⟩ := Kd.R_slice HO142.out; subst eo41) | ((with_reducible refine gate_callee (f := 39) rfl ?_); refine gl_ (some 15) Tryd.func39 #[.pointer (some ⟨g, 0, none⟩), .int .i64 (t140.length : Int)] ?_; (with_reducible refine (spec_l30Rd_pick.calls k g s0_0 t143 (t140.length : Int) t145 t146 w0 _ ?side1 ?side2 A4.out).mono ?_); (case side1 => repeat (first | (with_reducible first | exact HI0.out | apply IsS79.alloc | apply IsS79.drewN | apply IsS79.drew | apply IsS79.set_1 | refine IsS79.far ?_ NB0_138.out _ | refine IsS79.far ?_ NB0_144.out _) | exact HI0.out)); (case side2 => exact (ng79_21 HB.out)); rintro e w42 ⟨rfl, hi, hb, hk⟩; refine ⟨_, rfl, ?_⟩; replace BK138 := Aside0.mk (KeepBut.blk hk (g' := gb138) (o := .cells #[.int .i64 0, .slice none 0 0] 25 (0, 0)) (nbf_ BK138.out) NB138_0.out (by simp)); replace HO142 := Aside0.mk (Kd.R_mono (Kd.R_keep (IsS79.apart (show IsS79 w0 _ g s0_0 t143 from ni79_21 HI0.out) (by (with_reducible repeat (first | apply Kd.R_alloc | apply Kd.R_drewN | apply Kd.R_drew)); exact (Kd.R_mono (rf2_ (Kd.R_types HO142.out BK144.out (by decide))) (fun _ h_ => h_.1))) (by decide)) hk (fun _ h => h.2)) (fun _ h => h.1)); replace BK144 := Aside0.mk (KeepBut.blk hk (g' := gb144) (o := .cells #[.int .i64 t139, .slice Ao41 t140.length co41] 25 (0, 0)) (np_ BK144.out) NB144_0.out (by simp)); replace HK := Aside0.mk (KeepBut.trans (nk_ HK.out) hk (.inl rfl)); replace HB := Aside0.mk (hb); replace HI0 := Aside0.mk (hi); (try clear hb); (try clear hb2); (try clear hk); (try clear hi)) | ((with_reducible refine gate_callee (f := 39) rfl ?_); refine gl_ (some 17) Tryd.func39 #[.pointer (some ⟨g, 0, none⟩), .int .i64 16] ?_; (with_reducible refine (spec_l30Rd_pick.calls k g s0_0 t146 16 t147 t148 w0 _ ?side1 ?side2 A5.out).mono ?_); (case side1 => repeat (first | (with_reducible first | exact HI0.out | apply IsS79.alloc | apply IsS79.drewN | apply IsS79.drew | apply IsS79.set_1 | refine IsS79.far ?_ NB0_138.out _ | refine IsS79.far ?_ NB0_144.out _) | exact HI0.out)); (case side2 => exact (ng79_21 HB.out)); rintro e w43 ⟨rfl, hi, hb, hk⟩; refine ⟨_, rfl, ?_⟩; replace BK138 := kk_ BK138 hk NB138_0; replace HO142 := Aside0.mk (Kd.R_mono (Kd.R_keep (IsS79.apart (show IsS79 w0 _ g s0_0 t146 from ni79_21 HI0.out) (nr_ HO142.out) (by decide)) hk (fun _ h => h.2)) (fun _ h => h.1)); replace BK144 := kk_ BK144 hk NB144_0; replace HK := Aside0.mk (KeepBut.trans (nk_ HK.out) hk (.inl rfl)); replace HB := Aside0.mk (hb); replace HI0 := Aside0.mk (hi); (try clear hb); (try clear hb2); (try clear hk); (try clear hi)))
  replace HO142 := Aside0.mk (Kd.R_drew HO142.out)
  replace BK138 := Aside0.mk (blk_drew BK138.out)
  replace BK144 := Aside0.mk (blk_drew BK144.out)
  replace HI0 := Aside0.mk (IsS79.drew HI0.out)
  replace HK := Aside0.mk (keep_drew HK.out)
  replace HB := Aside0.mk (below_drew1 HB.out)
  refine start_ (n := 9) (S := fun w' => w'.cell? ⟨gb144, 0, none⟩ = some (.int .i64 t139) ∧ w'.cell? ⟨gb144, 1, none⟩ = some (.slice Ao41 t140.length co41)) (ds := [8]) (bm_ 9 0) (by kernel_rfl) rfl rfl ⟨ct_ BK144.out 0, ct_ BK144.out 1⟩ (fun hHeld => ?_); refine with_tabW spec_l30AnyNet.tab8 spec_l30AnyNet.bits8 (fun HT_ HW_ => ?_)
  generalize w43.drew = w44 at HO142 BK138 BK144 HI0 HK HB hHeld ⊢
  refine pu_ 0 36 (bm_ 9 1) HT_.out ?_
  refine pu_ 2 38 (bm_ 9 5) HT_.out ?_
  refine pu_ 3 39 (bm_ 9 13) HT_.out ?_
  refine tk_ 1 37 (bm_ 9 15) HT_.out HW_.out hHeld ?_
  refine one_ (i := 4) (N := some 40) (bm_ 9 31) rfl rfl (one_of HT_.out (by kernel_rfl)) (by decide) (fun K hK => ?_)
  refine ls_ 40 3 [(-1), 100] [.int .i64 (-1), .int .i64 100] ?_
  intro v157 w45 ho46 hb hg_ hnew_
  clear hg_ hnew_
  (first | rw [← Ny156.out] at ho46 | (simp only [Int.reduceToNat] at ho46; rw [← Ny156.out] at ho46))
  replace HO142 := kR_ HO142 hb
  have HO158 := Aside0.mk (Kd.R_lower ho46 (keep_size (w := w) (g := g) (row := none) (nk_ HK.out)))
  replace BK138 := kb_ BK138 hb
  replace BK144 := kb_ BK144 hb
  replace HK := Aside0.mk (KeepBut.trans (nk_ HK.out) (KeepBut.of_below hb g none) (.inl rfl))
  replace HB := Aside0.mk (below_step (ng79_21 HB.out) hb)
  replace HI0 := Aside0.mk (IsS79.below (ni79_21 HI0.out) hb)
  clear hb ho46
  obtain ⟨Ao47, co47, eo47⟩ := Kd.R_slice HO158.out
  (first | subst eo47 | (injection eo47 with f1_ f2_ f3_; have f4_ := f1_.symm; have f5_ := f3_.symm; clear f1_ f2_ f3_; subst f4_; subst f5_))
  refine hK.out _ _ ⟨ct_ BK144.out 0, ct_ BK144.out 1⟩ (fun hHeld => ?_)
  clear hK K
  refine nm1_ (some 40) ?_
  refine one_ (i := 5) (N := some 41) (bm_ 9 63) rfl rfl (one_of HT_.out (by kernel_rfl)) (by decide) (fun K hK => ?_)
  refine go_ Tryd.func48 #[.pointer (some ⟨g, 0, none⟩), .slice Ao47 y156.length co47] ?_
  with_reducible refine (spec_l30Rd_one.calls k g s0_0 t148 _ _ y156 t159 t160 w0 _ ?side1 ?side2 ?side3 ?side4 ?side5 A31.out).mono ?_
  (case side1 => repeat (first | (with_reducible first | exact HI0.out | apply IsS79.alloc | apply IsS79.drewN | apply IsS79.drew | apply IsS79.set_1 | refine IsS79.far ?_ NB0_138.out _ | refine IsS79.far ?_ NB0_144.out _) | exact HI0.out))
  (case side2 => exact (ng79_21 HB.out))
  (case side3 => exact nc_ (Kd.R_reads' HO158.out).2.2)
  (case side4 => exact (Kd.R_reads' HO158.out).2.1)
  (case side5 => exact far_slice (IsS79.own_ne HI0.out HO158.out (by decide)))
  rintro e w48 ⟨rfl, hi, hb, hk⟩
  refine ⟨_, rfl, ?_⟩
  replace BK138 := kk_ BK138 hk NB138_0
  replace HO142 := Aside0.mk (Kd.R_mono (Kd.R_keep (IsS79.apart (show IsS79 w0 _ g s0_0 t148 from ni79_21 HI0.out) (nr_ HO142.out) (by decide)) hk (fun _ h => h.2)) (fun _ h => h.1))
  replace BK144 := kk_ BK144 hk NB144_0
  replace HO158 := Aside0.mk (Kd.R_mono (Kd.R_keep (IsS79.apart (show IsS79 w0 _ g s0_0 t148 from ni79_21 HI0.out) (nr_ HO158.out) (by decide)) hk (fun _ h => h.2)) (fun _ h => h.1))
  replace HK := Aside0.mk (KeepBut.trans (nk_ HK.out) hk (.inl rfl))
  replace HB := Aside0.mk (hb)
  replace HI0 := Aside0.mk (hi)
  (try clear hb)
  (try clear hb2)
  (try clear hk)
  (try clear hi)
  have p34 : 0 ≤ (t145 : Int) := of_decide_eq_true nx_
  have q34 : (t145 : Int) < ((t140.length : Int) : Int) := of_decide_eq_true nx_
  obtain ⟨go34, co34, eo34, gb34, gl34, cl34, HG34⟩ := Kd.R_form HO142.out (by omega)
  (first | cases eo34 | (injection eo34 with ea_ en_ ec_; (first | subst ea_ | (injection ea_ with ea_; subst ea_)); subst ec_; clear en_))
  have GB34 := Aside0.mk gb34
  have GG34 := Aside0.mk HG34
  clear gb34 gl34 HG34
  obtain ⟨ce34, hcl34, hM34, hcc34, hfr34⟩ := Kd.R_elem HO142.out z54 (t145 : Int) p34 q34
  obtain rfl := k54_openM hM34
  have hx34_0 : World.cell? _ ⟨go34, (t145 : Int).toNat * 5, none⟩ = some (.int .i64 ((rd_T54 t140 t145).f0)) := hcc34 0 _ rfl
  have hx34_1 : World.cell? _ ⟨go34, (t145 : Int).toNat * 5 + 1, none⟩ = some (.int .i64 ((rd_T54 t140 t145).f1)) := hcc34 1 _ rfl
  have hx34_2 : World.cell? _ ⟨go34, (t145 : Int).toNat * 5 + 2, none⟩ = some (.int .i64 ((rd_T54 t140 t145).f2)) := hcc34 2 _ rfl
  have hx34_3 : World.cell? _ ⟨go34, (t145 : Int).toNat * 5 + 3, none⟩ = some (.int .i64 ((rd_T54 t140 t145).f3)) := hcc34 3 _ rfl
  have hx34_4 : World.cell? _ ⟨go34, (t145 : Int).toNat * 5 + 4, none⟩ = some (.int .i64 ((rd_T54 t140 t145).f4)) := hcc34 4 _ rfl
  have hf34_0 : World.frozen? _ ⟨go34, (t145 : Int).toNat * 5, none⟩ = false := hfr34 0
  have hf34_1 : World.frozen? _ ⟨go34, (t145 : Int).toNat * 5 + 1, none⟩ = false := hfr34 1
  have hf34_2 : World.frozen? _ ⟨go34, (t145 : Int).toNat * 5 + 2, none⟩ = false := hfr34 2
  have hf34_3 : World.frozen? _ ⟨go34, (t145 : Int).toNat * 5 + 3, none⟩ = false := hfr34 3
  have hf34_4 : World.frozen? _ ⟨go34, (t145 : Int).toNat * 5 + 4, none⟩ = false := hfr34 4
  clear hcl34 hcc34 hfr34 hM34
  replace p34 := eq_true p34
  replace q34 := eq_true q34
  have HN0_go34 := Aside0.mk (show g ≠ go34 from by have h_ := IsS79.own_ne HI0.out HO142.out (by decide); intro e_; exact h_ (by rw [e_]; rfl))
  obtain ⟨ce49, hcl49, hM49, hcc49, hfr49⟩ := Kd.R_elem HO142.out z54 (t145 : Int) (of_decide_eq_true nx_) (by have h_ : (t145 : Int) < ((t140.length : Int) : Int) := of_decide_eq_true nx_; first | exact h_ | (have e_ := (Kd.R_reads' HO142.out).1; omega) | simpa using h_)
  obtain rfl := k54_openM hM49
  have HP49 := (Kd.R_seg HO142.out (t145 : Int) (of_decide_eq_true nx_) (by have h_ : (t145 : Int) < ((t140.length : Int) : Int) := of_decide_eq_true nx_; first | exact h_ | (have e_ := (Kd.R_reads' HO142.out).1; omega) | simpa using h_) (seg := [.int .i64 t159]) (j := 2) hcl49 hcc49 (show 3 ≤ 5 from by decide) (x' := (⟨(rd_T54 t140 t145).f0, (rd_T54 t140 t145).f1, t159, (rd_T54 t140 t145).f3, (rd_T54 t140 t145).f4⟩ : S54)) (k54_mkM _ _ _ (⟨(rd_T54 t140 t145).f0, (rd_T54 t140 t145).f1, t159, (rd_T54 t140 t145).f3, (rd_T54 t140 t145).f4⟩ : S54) ) (fun _ hk => hk)).1
  rw [← Ny161.out] at HP49
  have HQ49 := Aside0.mk HP49
  clear hcl49 hcc49 hfr49 hM49 HP49
  refine hK.out _ _ ⟨ct_ BK144.out 0, ct_ BK144.out 1⟩ (fun hHeld => ?_)
  clear hK K
  refine nm1_ (some 41) ?_
  refine pu_ 6 42 (bm_ 9 127) HT_.out ?_
  refine pu_ 7 43 (bm_ 9 255) HT_.out ?_
  refine last_ (i := 8) (N := none) (bm_ 9 511) rfl rfl (one_of HT_.out (by kernel_rfl)) (by decide) (fun K hK => ?_)
  refine skip_ (w1 := ?_) (by rfl) rfl ?_ ?_
  rotate_left
  ·go_simp
   rfl
  refine hK.out _ _ ?_
  clear hK K
  refine done_ (done_of HT_.out (by kernel_rfl)) ?_
  have n0_ : Aside0 (Kd.R k54 54 (w48.setCell ⟨go34, (t145 : Int).toNat * 5 + 2, none⟩ (.int .i64 t159)) w.heap.size (fun _ => True) (.slice (some ⟨go34, 0, none⟩) t140.length co41) y161) := ⟨nr_ HQ49.out⟩
  have n1_ : Aside0 (Kd.R (Kd.int .i64) 3 (w48.setCell ⟨go34, (t145 : Int).toNat * 5 + 2, none⟩ (.int .i64 t159)) w.heap.size (fun _ => True) (.slice Ao47 y156.length co47) y156) := ⟨by (with_reducible repeat (first | apply Kd.R_alloc | apply Kd.R_drewN | apply Kd.R_drew)); exact Kd.R_mono (Kd.R_far (p := ⟨go34, (t145 : Int).toNat * 5 + 2, none⟩) (Kd.R_types HO158.out GG34.out (by decide)) (fun _ hk => hk.2) (.int .i64 t159)) (fun _ hk => trivial)⟩
  have n2_ : Aside0 ((w48.setCell ⟨go34, (t145 : Int).toNat * 5 + 2, none⟩ (.int .i64 t159)).heap[gb138]? = some (.cells #[.int .i64 0, .slice none 0 0] 25 (0, 0))) := ⟨by (with_reducible repeat (first | refine blk_drewN ?_ _ | refine blk_drew ?_ | refine blk_alloc ?_ _)); refine blk_far ?_ (by have h_ := Kd.R_ne HO142.out BK138.out (by decide); intro e_; exact h_ (by rw [e_]; rfl)) _; (with_reducible repeat (first | refine blk_drewN ?_ _ | refine blk_drew ?_ | refine blk_alloc ?_ _)); exact BK138.out⟩
  have n3_ : Aside0 ((w48.setCell ⟨go34, (t145 : Int).toNat * 5 + 2, none⟩ (.int .i64 t159)).heap[gb144]? = some (.cells #[.int .i64 t139, .slice (some ⟨go34, 0, none⟩) t140.length co41] 25 (0, 0))) := ⟨by (with_reducible repeat (first | refine blk_drewN ?_ _ | refine blk_drew ?_ | refine blk_alloc ?_ _)); refine blk_far ?_ (by have h_ := Kd.R_ne HO142.out BK144.out (by decide); intro e_; exact h_ (by rw [e_]; rfl)) _; (with_reducible repeat (first | refine blk_drewN ?_ _ | refine blk_drew ?_ | refine blk_alloc ?_ _)); exact BK144.out⟩
  have n4_ : Aside0 (IsS79 w0 (w48.setCell ⟨go34, (t145 : Int).toNat * 5 + 2, none⟩ (.int .i64 t159)) g s0_0 t160) := ⟨ni79_21 HI0.out⟩
  have n5_ : Aside0 (KeepBut w (w48.setCell ⟨go34, (t145 : Int).toNat * 5 + 2, none⟩ (.int .i64 t159)) g none) := ⟨nk_ HK.out⟩
  have n6_ : Aside0 (Below w0.heap.size w0 (w48.setCell ⟨go34, (t145 : Int).toNat * 5 + 2, none⟩ (.int .i64 t159))) := ⟨by repeat (first | (with_reducible first | exact HB.out | apply below_alloc | apply pw_below_drewN | apply below_drew1 | refine below_set ?_ (Nat.le_trans HL.out GB34.out) | refine below_set ?_ (IsS79.ge HI0.out) | refine below_set ?_ GE138.out | refine below_set ?_ GE144.out) | exact HB.out)⟩
  (try clear HO142)
  (try clear HO158)
  (try clear BK138)
  (try clear BK144)
  (try clear HI0)
  (try clear HK)
  (try clear HB)
  generalize (w48.setCell ⟨go34, (t145 : Int).toNat * 5 + 2, none⟩ (.int .i64 t159)) = w50 at n0_ n1_ n2_ n3_ n4_ n5_ n6_ ⊢
  have HO142 := n0_
  have HO158 := n1_
  have BK138 := n2_
  have BK144 := n3_
  have HI0 := n4_
  have HK := n5_
  have HB := n6_
  clear n0_ n1_ n2_ n3_ n4_ n5_ n6_
  obtain ⟨hcz51_0, hcz51_1, hfz51_0, hfz51_1⟩ := cz2_ BK144.out
  have hnb52 := NB138_0.out
  have hnc52 := NB0_138.out
  obtain ⟨hcz53_0, hcz53_1, hfz53_0, hfz53_1⟩ := cz2_ BK138.out
  try go_wp2
  refine bodyPost_ret (results_cell_row rfl _ _ gb138 25 #[.int .i64 t139, .slice (some ⟨go34, 0, none⟩) t140.length co41] (0, 0) _ rfl (np_ BK138.out) Tryd.underlying25 rfl (by kernel_rfl)) rfl ?_
  exact ⟨_, nw_, by (with_reducible repeat (first | apply Kd.R_alloc | apply Kd.R_drewN | apply Kd.R_drew)); exact Kd.R_mono (rf2_ (Kd.R_types HO142.out BK138.out (by decide))) (fun _ hk => trivial), ni79_21 HI0.out, by repeat (first | (with_reducible first | exact HB.out | apply below_alloc | apply pw_below_drewN | apply below_drew1 | refine below_set ?_ (IsS79.ge HI0.out) | refine below_set ?_ GE138.out | refine below_set ?_ GE144.out) | exact HB.out), nk_ HK.out⟩
end Go.Proofs.YtppjelkljihdoaaDoor.Print
