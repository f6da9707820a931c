-- Made by this session's own program (wip/patch_print.py, over the kit's print). Lean checks it.
import Derived.Test.YtahcomglicodlaaPrint0
import Derived.Test.YtahcomglicodlaaPrintB
import Derived.Test.YtahcomglicodlaaPrintF16
import Derived.Test.YtahcomglicodlaaPrintF17
import Derived.Test.YtahcomglicodlaaPrintF18
namespace Go.Proofs.Ytahcomglicodlaa.Print
open Go.RowKit Go.Proofs.YtahcomglicodlaaW.PrintWords Go.Proofs.YtahcomglicodlaaW.PrintLast Go.Proofs.YtahcomglicodlaaW.PrintMore Go.Proofs.YtahcomglicodlaaX
attribute [local go_sem] max2_int min2_int max_two min_two max_three min_three max_four min_four   -- for this text's walks alone
set_option linter.unusedVariables false
set_option linter.unusedSimpArgs false

theorem ng44_8 {B : Nat} {w W W' : World} (h : Below B w W) (e : Below B w W → Below B w W' := by intro h_; repeat (first | (with_reducible first | exact h_ | apply below_alloc | apply pw_below_drewN | apply below_drew1 | refine below_set ?_ (IsS44.ge (Aside0.out (by with_reducible assumption))) | refine below_set ?_ (Aside0.out (by with_reducible assumption))) | exact h_)) : Below B w W' := e h
theorem ni44_8 {p q : Prop} (h : p) (e : p → q := by intro h_; repeat (first | (with_reducible first | exact h_ | apply IsS44.alloc | apply IsS44.drewN | apply IsS44.drew | apply IsS44.set_1 | refine IsS44.far ?_ (Aside0.out (by with_reducible assumption)) _) | exact h_)) : q := e h
/-! ### spec_l30AnyNet: function 8 -/
def spec_l30AnyNet.f (k : Nat) (s0_0 : List Int) (s0_1 : Int) : Option (Int × (List (S33)) × Int) := (spec_l30Net.f k s0_0 s0_1).bind fun bt142 => (if (bt142.2.1.length : Int) > 0 then ((spec_l30Rd_pick.f k s0_0 bt142.2.2 (bt142.2.1.length : Int)).bind fun bt148 => ((spec_l30Rd_pick.f k s0_0 bt148.2 16).bind fun bt150 => (if bt150.1 = 0 then (if 0 ≤ bt148.1 then (if bt148.1 < (bt142.2.1.length : Int) then ((spec_l30Rd_one.f k s0_0 bt150.2 (([(-1), 8, (rd_T33 bt142.2.1 bt148.1).f0] : List Int))).bind fun bt156 => (some (bt142.1, (bt142.2.1.set (bt148.1 : Int).toNat (⟨(rd_T33 bt142.2.1 bt148.1).f0, bt156.1, (rd_T33 bt142.2.1 bt148.1).f2, (rd_T33 bt142.2.1 bt148.1).f3, (rd_T33 bt142.2.1 bt148.1).f4⟩ : S33)), bt156.2))) else (none)) else (none)) else (if bt150.1 = 1 then ((spec_l30Rd_one.f k s0_0 bt150.2 (([(-1), 100] : List Int))).bind fun bt162 => (if 0 ≤ bt148.1 then (if bt148.1 < (bt142.2.1.length : Int) then (some (bt142.1, (bt142.2.1.set (bt148.1 : Int).toNat (⟨(rd_T33 bt142.2.1 bt148.1).f0, (rd_T33 bt142.2.1 bt148.1).f1, bt162.1, (rd_T33 bt142.2.1 bt148.1).f3, (rd_T33 bt142.2.1 bt148.1).f4⟩ : S33)), bt162.2)) else (none)) else (none))) else (if bt150.1 = 2 then ((spec_l30Rd_one.f k s0_0 bt150.2 (([0, 1, 9, 8] : List Int))).bind fun bt168 => (some (bt168.1, bt142.2.1, bt168.2))) else (some (bt142.1, bt142.2.1, bt150.2))))))) else (some (bt142.1, bt142.2.1, bt142.2.2)))
theorem spec_l30AnyNet.mono : ∀ a0 a1 k, LeO (spec_l30AnyNet.f k a0 a1) (spec_l30AnyNet.f (k + 1) a0 a1) := by
  intro a0 a1 k
  unfold spec_l30AnyNet.f
  repeat' first | (with_reducible first | exact spec_l30Net.mono _ _ _ | exact spec_l30Rd_one.mono _ _ _ _ | exact spec_l30Rd_pick.mono _ _ _ _ | exact LeO.refl _ | exact LeO.none _ | refine LeO.ite ?_ ?_ | refine LeO.bind ?_ (fun _ => ?_)) | exact spec_l30Net.mono _ _ _ | exact spec_l30Rd_one.mono _ _ _ _ | exact spec_l30Rd_pick.mono _ _ _ _ | exact LeO.none _ | refine LeO.ite ?_ ?_ | refine LeO.bind ?_ (fun _ => ?_)
def spec_l30AnyNet.T6 : Bool × List (List Nat × List Nat) := (true, [([], []), ([0], [0]), ([], []), ([], []), ([], []), ([4], [4]), ([], []), ([5, 6], [5, 6]), ([7], [7]), ([8], [8]), ([9], [9]), ([3, 10], [3, 10]), ([1, 2, 0, 1, 2, 3, 4, 5, 6, 7, 8, 9, 10, 11], [1, 2]), ([12, 0, 1, 2, 3, 4, 5, 6, 7, 8, 9, 10, 11], [12]), ([13, 11, 11, 0, 1, 2, 3, 4, 5, 6, 7, 8, 9, 10, 11], [11, 13])])
def spec_l30AnyNet.B6 : List Nat := [0, 1, 0, 0, 0, 16, 0, 112, 240, 496, 1008, 2040, 4095, 8191, 16383]
theorem spec_l30AnyNet.tab6 : rtab .any (opsOf Try.f8 6) = spec_l30AnyNet.T6 := by kernel_rfl
theorem spec_l30AnyNet.bits6 : waitsOk spec_l30AnyNet.T6.2 spec_l30AnyNet.B6 = true := by kernel_rfl
def spec_l30AnyNet.T8 : Bool × List (List Nat × List Nat) := (true, [([], []), ([0], [0]), ([], []), ([], []), ([], []), ([3, 4], [3, 4]), ([1, 2, 0, 1, 2, 3, 4, 5], [1, 2]), ([6, 0, 1, 2, 3, 4, 5], [6]), ([7, 5, 5, 0, 1, 2, 3, 4, 5], [5, 7])])
def spec_l30AnyNet.B8 : List Nat := [0, 1, 0, 0, 0, 24, 63, 127, 255]
theorem spec_l30AnyNet.tab8 : rtab .any (opsOf Try.f8 8) = spec_l30AnyNet.T8 := by kernel_rfl
theorem spec_l30AnyNet.bits8 : waitsOk spec_l30AnyNet.T8.2 spec_l30AnyNet.B8 = true := by kernel_rfl
set_option maxHeartbeats 200000000 in
set_option maxRecDepth 100000 in
theorem spec_l30AnyNet.calls (k : Nat) (g : Nat) (s0_0 : List Int) (s0_1 : Int) (r1 : Int) (r2 : List (S33)) (r3 : Int) (w0 w : World) (hI : IsS44 w0 w g s0_0 s0_1) (hB : Below w0.heap.size w0 w) (h : spec_l30AnyNet.f k s0_0 s0_1 = some (r1, r2, r3)) :
    Calls Try.prog 8 #[.pointer (some ⟨g, 0, none⟩)] w fun e w' => ∃ v1_ : Value, e = .returned (.agg #[.int .i64 r1, v1_]) ∧ Kd.R k33 33 w' w.heap.size (fun _ => True) v1_ r2 ∧ IsS44 w0 w' g s0_0 r3 ∧ Below w0.heap.size w0 w' ∧ KeepBut w w' g none := by
  have hu25 := Try.underlying25
  have HI0 := Aside0.mk hI
  have HK := Aside0.mk (KeepBut.refl w g none)
  have HL := Aside0.mk hB.size
  clear hI
  have HW0 := Aside0.mk hB.size
  have HB := Aside0.mk hB
  clear hB
  have H : ((spec_l30Net.f k s0_0 s0_1).bind fun bt142 => (if (bt142.2.1.length : Int) > 0 then ((spec_l30Rd_pick.f k s0_0 bt142.2.2 (bt142.2.1.length : Int)).bind fun bt148 => ((spec_l30Rd_pick.f k s0_0 bt148.2 16).bind fun bt150 => (if bt150.1 = 0 then (if 0 ≤ bt148.1 then (if bt148.1 < (bt142.2.1.length : Int) then ((spec_l30Rd_one.f k s0_0 bt150.2 (([(-1), 8, (rd_T33 bt142.2.1 bt148.1).f0] : List Int))).bind fun bt156 => (some (bt142.1, (bt142.2.1.set (bt148.1 : Int).toNat (⟨(rd_T33 bt142.2.1 bt148.1).f0, bt156.1, (rd_T33 bt142.2.1 bt148.1).f2, (rd_T33 bt142.2.1 bt148.1).f3, (rd_T33 bt142.2.1 bt148.1).f4⟩ : S33)), bt156.2))) else (none)) else (none)) else (if bt150.1 = 1 then ((spec_l30Rd_one.f k s0_0 bt150.2 (([(-1), 100] : List Int))).bind fun bt162 => (if 0 ≤ bt148.1 then (if bt148.1 < (bt142.2.1.length : Int) then (some (bt142.1, (bt142.2.1.set (bt148.1 : Int).toNat (⟨(rd_T33 bt142.2.1 bt148.1).f0, (rd_T33 bt142.2.1 bt148.1).f1, bt162.1, (rd_T33 bt142.2.1 bt148.1).f3, (rd_T33 bt142.2.1 bt148.1).f4⟩ : S33)), bt162.2)) else (none)) else (none))) else (if bt150.1 = 2 then ((spec_l30Rd_one.f k s0_0 bt150.2 (([0, 1, 9, 8] : List Int))).bind fun bt168 => (some (bt168.1, bt142.2.1, bt168.2))) else (some (bt142.1, bt142.2.1, bt150.2))))))) else (some (bt142.1, bt142.2.1, bt142.2.2)))) = some (r1, r2, r3) := h
  clear h
  replace H := Option.bind_eq_some_iff.mp H
  obtain ⟨⟨t142, t143, t146⟩, A20, H⟩ := H
  try dsimp only at H
  have A2 := Aside0.mk A20
  clear A20
  by_cases c3 : (t143.length : Int) > 0
  rotate_left
  ·rw [if_neg c3] at H
   have c3b0 : decide (0 < (t143.length : Int)) = false := decide_eq_false c3
   have c3b1 : decide (0 < t143.length) = false := decide_eq_false (by omega)
   clear c3
   simp only [Option.some.injEq, Prod.mk.injEq] at H
   obtain ⟨rfl, rfl, rfl⟩ := H
   go_enter Try.func8, Try.ntmps8
   go_wp2_with (first | ((with_reducible refine gate_dst (N := 2) rfl ?_); refine bx_ 2 #[.int .i64 0, .slice none 0 0] 25 ?_; intro gb141 hg w84 hbox hb; have BK141 := Aside0.mk (hbox); have GW141 := Aside0.mk (zk_ hg (nk_ HK.out)); have GE141 := Aside0.mk ((Nat.le_trans HW0.out (by rw [hg]; exact (keep_size (w := w) (g := g) (row := none) (nk_ HK.out)) : w.heap.size ≤ gb141) : w0.heap.size ≤ gb141)); have NB0_141 := Aside0.mk ((by rw [hg]; exact Nat.ne_of_lt (IsS44.lt (show IsS44 w0 _ g s0_0 s0_1 from ni44_8 HI0.out)) : g ≠ gb141)); have NB141_0 := Aside0.mk ((by rw [hg]; exact Nat.ne_of_gt (IsS44.lt (show IsS44 w0 _ g s0_0 s0_1 from ni44_8 HI0.out)) : gb141 ≠ g)); replace HI0 := Aside0.mk (IsS44.below (ni44_8 HI0.out) hb); replace HK := Aside0.mk (KeepBut.trans (nk_ HK.out) (KeepBut.of_below hb g none) (.inl rfl)); replace HB := Aside0.mk (below_step (ng44_8 HB.out) hb); clear hb hbox hg) | ((with_reducible refine gate_callee (f := 16) rfl ?_); refine gl_ (some 6) Try.func16 #[.pointer (some ⟨g, 0, none⟩)] ?_; (with_reducible refine (spec_l30Net.calls k g s0_0 s0_1 t142 t143 t146 w0 _ ?side1 ?side2 A2.out).mono ?_); (case side1 => repeat (first | (with_reducible first | exact HI0.out | apply IsS44.alloc | apply IsS44.drewN | apply IsS44.drew | apply IsS44.set_1 | refine IsS44.far ?_ NB0_141.out _) | exact HI0.out)); (case side2 => exact (ng44_8 HB.out)); rintro e w85 ⟨v144, rfl, ho0, hi, hb, hk⟩; refine ⟨_, rfl, ?_⟩; have HO145 := Aside0.mk (Kd.R_lower ho0 (keep_size (w := w) (g := g) (row := none) (nk_ HK.out))); replace BK141 := kk_ BK141 hk NB141_0; replace HK := Aside0.mk (KeepBut.trans (nk_ HK.out) hk (.inl rfl)); replace HB := Aside0.mk (hb); replace HI0 := Aside0.mk (hi); (try clear hb); (try clear hb2); (try clear hk); (try clear hi); (try clear ho0)) | ((with_reducible refine gate_dst (N := 3) rfl ?_); refine bx_ 3 #[.int .i64 0, .slice none 0 0] 25 ?_; intro gb147 hg w86 hbox hb; have BK147 := Aside0.mk (hbox); have GW147 := Aside0.mk (zk_ hg (nk_ HK.out)); have GE147 := Aside0.mk ((Nat.le_trans HW0.out (by rw [hg]; exact (keep_size (w := w) (g := g) (row := none) (nk_ HK.out)) : w.heap.size ≤ gb147) : w0.heap.size ≤ gb147)); have NB141_147 := Aside0.mk (nl_ BK141.out hg); have NB147_141 := Aside0.mk (nm_ BK141.out hg); have NB0_147 := Aside0.mk ((by rw [hg]; exact Nat.ne_of_lt (IsS44.lt (show IsS44 w0 _ g s0_0 t146 from ni44_8 HI0.out)) : g ≠ gb147)); have NB147_0 := Aside0.mk ((by rw [hg]; exact Nat.ne_of_gt (IsS44.lt (show IsS44 w0 _ g s0_0 t146 from ni44_8 HI0.out)) : gb147 ≠ g)); replace HO145 := kR_ HO145 hb; replace HI0 := Aside0.mk (IsS44.below (ni44_8 HI0.out) hb); replace BK141 := kb_ BK141 hb; replace HK := Aside0.mk (KeepBut.trans (nk_ HK.out) (KeepBut.of_below hb g none) (.inl rfl)); replace HB := Aside0.mk (below_step (ng44_8 HB.out) hb); clear hb hbox hg; have hnb87 := NB147_141.out; have hnc87 := NB141_147.out; have hnb88 := NB147_0.out; have hnc88 := NB0_147.out; obtain ⟨hcz89_0, hcz89_1, hfz89_0, hfz89_1⟩ := cz2_ BK147.out; obtain ⟨Ao90, co90, eo90⟩ := Kd.R_slice HO145.out; subst eo90; have hnb91 := NB141_0.out; have hnc91 := NB0_141.out; obtain ⟨hcz92_0, hcz92_1, hfz92_0, hfz92_1⟩ := cz2_ BK141.out))
   refine bodyPost_ret (results_cell_row rfl _ _ gb141 25 #[.int .i64 t142, .slice Ao90 t143.length co90] (0, 0) _ rfl (np_ BK141.out) Try.underlying25 rfl (by kernel_rfl)) rfl ?_
   exact ⟨_, nw_, by (with_reducible repeat (first | apply Kd.R_alloc | apply Kd.R_drewN | apply Kd.R_drew)); exact Kd.R_mono (rf2_ (Kd.R_far (p := ⟨gb147, 1, none⟩) (Kd.R_far (p := ⟨gb147, 0, none⟩) (Kd.R_types (Kd.R_types HO145.out BK147.out (by decide)) BK141.out (by decide)) (fun _ hk => hk.1.2) (.int .i64 t142)) (fun _ hk => hk.1.2) (.slice Ao90 t143.length co90))) (fun _ hk => trivial), ni44_8 HI0.out, by repeat (first | (with_reducible first | exact HB.out | apply below_alloc | apply pw_below_drewN | apply below_drew1 | refine below_set ?_ (IsS44.ge HI0.out) | refine below_set ?_ GE141.out | refine below_set ?_ GE147.out) | exact HB.out), nk_ HK.out⟩

  rw [if_pos c3] at H
  have c3b0 : decide (0 < (t143.length : Int)) = true := decide_eq_true c3
  have c3b1 : decide (0 < t143.length) = true := decide_eq_true (by omega)
  clear c3
  replace H := Option.bind_eq_some_iff.mp H
  obtain ⟨⟨t148, t149⟩, A40, H⟩ := H
  try dsimp only at H
  have A4 := Aside0.mk A40
  clear A40
  replace H := Option.bind_eq_some_iff.mp H
  obtain ⟨⟨t150, t151⟩, A50, H⟩ := H
  try dsimp only at H
  have A5 := Aside0.mk A50
  clear A50
  by_cases c6 : t150 = 0
  ·rw [if_pos c6] at H
   have c6b0 : (t150 == 0) = true := beq_iff_eq.mpr c6
   have c6b1 : (t150 != 0) = false := bne_eq_false_iff_eq.mpr c6
   clear c6
   by_cases c7 : 0 ≤ t148
   rotate_left
   ·rw [if_neg c7] at H
    exact absurd H (by simp)
   rw [if_pos c7] at H
   have c7b0 : decide (0 ≤ t148) = true := decide_eq_true c7
   clear c7
   by_cases c8 : t148 < (t143.length : Int)
   rotate_left
   ·rw [if_neg c8] at H
    exact absurd H (by simp)
   rw [if_pos c8] at H
   have c8b0 : decide (t148 < (t143.length : Int)) = true := decide_eq_true c8
   clear c8
   obtain ⟨y153, hy153⟩ : ∃ y_ : List Int, y_ = (([(-1), 8, (rd_T33 t143 t148).f0] : List Int)) := ⟨_, rfl⟩
   replace H : ((spec_l30Rd_one.f k s0_0 t151 y153).bind fun bt156 => (some (t142, (t143.set (t148 : Int).toNat (⟨(rd_T33 t143 t148).f0, bt156.1, (rd_T33 t143 t148).f2, (rd_T33 t143 t148).f3, (rd_T33 t143 t148).f4⟩ : S33)), bt156.2))) = some (r1, r2, r3) := by first | (rw [hy153]; with_reducible exact H) | (have H2_ := (Option.bind_some _ _).symm.trans H; rw [hy153]; with_reducible exact H2_) | (have H2_ := (Option.bind_some _ _).symm.trans H; with_reducible exact H2_) | with_reducible exact H | (rw [hy153]; exact H) | exact H
   have Ny153 := Aside0.mk hy153
   clear hy153
   replace H := Option.bind_eq_some_iff.mp H
   obtain ⟨⟨t156, t157⟩, A90, H⟩ := H
   try dsimp only at H
   have A9 := Aside0.mk A90
   clear A90
   obtain ⟨y158, hy158⟩ : ∃ y_ : List (S33), y_ = (t143.set (t148 : Int).toNat (⟨(rd_T33 t143 t148).f0, t156, (rd_T33 t143 t148).f2, (rd_T33 t143 t148).f3, (rd_T33 t143 t148).f4⟩ : S33)) := ⟨_, rfl⟩
   replace H : (some (t142, y158, t157)) = some (r1, r2, r3) := by first | (rw [hy158]; with_reducible exact H) | (have H2_ := (Option.bind_some _ _).symm.trans H; rw [hy158]; with_reducible exact H2_) | (have H2_ := (Option.bind_some _ _).symm.trans H; with_reducible exact H2_) | with_reducible exact H | (rw [hy158]; exact H) | exact H
   have Ny158 := Aside0.mk hy158
   clear hy158
   simp only [Option.some.injEq, Prod.mk.injEq] at H
   obtain ⟨rfl, rfl, rfl⟩ := H
   go_enter Try.func8, Try.ntmps8
   try go_wp2_with (first | ((with_reducible refine gate_dst (N := 2) rfl ?_); refine bx_ 2 #[.int .i64 0, .slice none 0 0] 25 ?_; intro gb141 hg w11 hbox hb; have BK141 := Aside0.mk (hbox); have GW141 := Aside0.mk (zk_ hg (nk_ HK.out)); have GE141 := Aside0.mk ((Nat.le_trans HW0.out (by rw [hg]; exact (keep_size (w := w) (g := g) (row := none) (nk_ HK.out)) : w.heap.size ≤ gb141) : w0.heap.size ≤ gb141)); have NB0_141 := Aside0.mk ((by rw [hg]; exact Nat.ne_of_lt (IsS44.lt (show IsS44 w0 _ g s0_0 s0_1 from ni44_8 HI0.out)) : g ≠ gb141)); have NB141_0 := Aside0.mk ((by rw [hg]; exact Nat.ne_of_gt (IsS44.lt (show IsS44 w0 _ g s0_0 s0_1 from ni44_8 HI0.out)) : gb141 ≠ g)); replace HI0 := Aside0.mk (IsS44.below (ni44_8 HI0.out) hb); replace HK := Aside0.mk (KeepBut.trans (nk_ HK.out) (KeepBut.of_below hb g none) (.inl rfl)); replace HB := Aside0.mk (below_step (ng44_8 HB.out) hb); clear hb hbox hg) | ((with_reducible refine gate_callee (f := 16) rfl ?_); refine gl_ (some 6) Try.func16 #[.pointer (some ⟨g, 0, none⟩)] ?_; (with_reducible refine (spec_l30Net.calls k g s0_0 s0_1 t142 t143 t146 w0 _ ?side1 ?side2 A2.out).mono ?_); (case side1 => repeat (first | (with_reducible first | exact HI0.out | apply IsS44.alloc | apply IsS44.drewN | apply IsS44.drew | apply IsS44.set_1 | refine IsS44.far ?_ NB0_141.out _) | exact HI0.out)); (case side2 => exact (ng44_8 HB.out)); rintro e w12 ⟨v144, rfl, ho0, hi, hb, hk⟩; refine ⟨_, rfl, ?_⟩; have HO145 := Aside0.mk (Kd.R_lower ho0 (keep_size (w := w) (g := g) (row := none) (nk_ HK.out))); replace BK141 := kk_ BK141 hk NB141_0; replace HK := Aside0.mk (KeepBut.trans (nk_ HK.out) hk (.inl rfl)); replace HB := Aside0.mk (hb); replace HI0 := Aside0.mk (hi); (try clear hb); (try clear hb2); (try clear hk); (try clear hi); (try clear ho0)) | ((with_reducible refine gate_dst (N := 3) rfl ?_); refine bx_ 3 #[.int .i64 0, .slice none 0 0] 25 ?_; intro gb147 hg w13 hbox hb; have BK147 := Aside0.mk (hbox); have GW147 := Aside0.mk (zk_ hg (nk_ HK.out)); have GE147 := Aside0.mk ((Nat.le_trans HW0.out (by rw [hg]; exact (keep_size (w := w) (g := g) (row := none) (nk_ HK.out)) : w.heap.size ≤ gb147) : w0.heap.size ≤ gb147)); have NB141_147 := Aside0.mk (nl_ BK141.out hg); have NB147_141 := Aside0.mk (nm_ BK141.out hg); have NB0_147 := Aside0.mk ((by rw [hg]; exact Nat.ne_of_lt (IsS44.lt (show IsS44 w0 _ g s0_0 t146 from ni44_8 HI0.out)) : g ≠ gb147)); have NB147_0 := Aside0.mk ((by rw [hg]; exact Nat.ne_of_gt (IsS44.lt (show IsS44 w0 _ g s0_0 t146 from ni44_8 HI0.out)) : gb147 ≠ g)); replace HO145 := kR_ HO145 hb; replace HI0 := Aside0.mk (IsS44.below (ni44_8 HI0.out) hb); replace BK141 := kb_ BK141 hb; replace HK := Aside0.mk (KeepBut.trans (nk_ HK.out) (KeepBut.of_below hb g none) (.inl rfl)); replace HB := Aside0.mk (below_step (ng44_8 HB.out) hb); clear hb hbox hg; have hnb14 := NB147_141.out; have hnc14 := NB141_147.out; have hnb15 := NB147_0.out; have hnc15 := NB0_147.out; obtain ⟨hcz16_0, hcz16_1, hfz16_0, hfz16_1⟩ := cz2_ BK147.out; obtain ⟨Ao17, co17, eo17⟩ := Kd.R_slice HO145.out; subst eo17) | ((with_reducible refine gate_callee (f := 17) rfl ?_); refine gl_ (some 15) Try.func17 #[.pointer (some ⟨g, 0, none⟩), .int .i64 (t143.length : Int)] ?_; (with_reducible refine (spec_l30Rd_pick.calls k g s0_0 t146 (t143.length : Int) t148 t149 w0 _ ?side1 ?side2 A4.out).mono ?_); (case side1 => repeat (first | (with_reducible first | exact HI0.out | apply IsS44.alloc | apply IsS44.drewN | apply IsS44.drew | apply IsS44.set_1 | refine IsS44.far ?_ NB0_141.out _ | refine IsS44.far ?_ NB0_147.out _) | exact HI0.out)); (case side2 => exact (ng44_8 HB.out)); rintro e w18 ⟨rfl, hi, hb, hk⟩; refine ⟨_, rfl, ?_⟩; replace BK141 := Aside0.mk (KeepBut.blk hk (g' := gb141) (o := .cells #[.int .i64 0, .slice none 0 0] 25 (0, 0)) (nbf_ BK141.out) NB141_0.out (by simp)); replace HO145 := Aside0.mk (Kd.R_mono (Kd.R_keep (IsS44.apart (show IsS44 w0 _ g s0_0 t146 from ni44_8 HI0.out) (by (with_reducible repeat (first | apply Kd.R_alloc | apply Kd.R_drewN | apply Kd.R_drew)); exact (Kd.R_mono (rf2_ (Kd.R_types HO145.out BK147.out (by decide))) (fun _ h_ => h_.1))) (by decide)) hk (fun _ h => h.2)) (fun _ h => h.1)); replace BK147 := Aside0.mk (KeepBut.blk hk (g' := gb147) (o := .cells #[.int .i64 t142, .slice Ao17 t143.length co17] 25 (0, 0)) (np_ BK147.out) NB147_0.out (by simp)); replace HK := Aside0.mk (KeepBut.trans (nk_ HK.out) hk (.inl rfl)); replace HB := Aside0.mk (hb); replace HI0 := Aside0.mk (hi); (try clear hb); (try clear hb2); (try clear hk); (try clear hi)) | ((with_reducible refine gate_callee (f := 17) rfl ?_); refine gl_ (some 17) Try.func17 #[.pointer (some ⟨g, 0, none⟩), .int .i64 16] ?_; (with_reducible refine (spec_l30Rd_pick.calls k g s0_0 t149 16 t150 t151 w0 _ ?side1 ?side2 A5.out).mono ?_); (case side1 => repeat (first | (with_reducible first | exact HI0.out | apply IsS44.alloc | apply IsS44.drewN | apply IsS44.drew | apply IsS44.set_1 | refine IsS44.far ?_ NB0_141.out _ | refine IsS44.far ?_ NB0_147.out _) | exact HI0.out)); (case side2 => exact (ng44_8 HB.out)); rintro e w19 ⟨rfl, hi, hb, hk⟩; refine ⟨_, rfl, ?_⟩; replace BK141 := kk_ BK141 hk NB141_0; replace HO145 := Aside0.mk (Kd.R_mono (Kd.R_keep (IsS44.apart (show IsS44 w0 _ g s0_0 t149 from ni44_8 HI0.out) (nr_ HO145.out) (by decide)) hk (fun _ h => h.2)) (fun _ h => h.1)); replace BK147 := kk_ BK147 hk NB147_0; replace HK := Aside0.mk (KeepBut.trans (nk_ HK.out) hk (.inl rfl)); replace HB := Aside0.mk (hb); replace HI0 := Aside0.mk (hi); (try clear hb); (try clear hb2); (try clear hk); (try clear hi)))
   replace HO145 := Aside0.mk (Kd.R_drew HO145.out)
   replace BK141 := Aside0.mk (blk_drew BK141.out)
   replace BK147 := Aside0.mk (blk_drew BK147.out)
   replace HI0 := Aside0.mk (IsS44.drew HI0.out)
   replace HK := Aside0.mk (keep_drew HK.out)
   replace HB := Aside0.mk (below_drew1 HB.out)
   have p152 : 0 ≤ (t148 : Int) := of_decide_eq_true nx_
   have q152 : t148 < (t143.length : Int) := of_decide_eq_true nx_
   obtain ⟨ad152, e152, hx152_0, hx152_1, hx152_2, hx152_3, hx152_4⟩ := at_T33 (Kd.R_reads' HO145.out).2.2 t148 p152 q152
   cases e152
   replace p152 := eq_true p152
   replace q152 := eq_true q152
   refine start_ (n := 15) (S := fun w' => w'.cell? ⟨gb147, 0, none⟩ = some (.int .i64 t142) ∧ w'.cell? ⟨gb147, 1, none⟩ = some (.slice (some ad152) t143.length co17) ∧ w'.cell? (ad152.add ((t148).toNat * 5)) = some (.int .i64 ((rd_T33 t143 t148).f0)) ∧ w'.cell? ⟨(ad152.add ((t148).toNat * 5)).block, (ad152.add ((t148).toNat * 5)).off + 1, none⟩ = some (.int .i64 ((rd_T33 t143 t148).f1)) ∧ w'.cell? ⟨(ad152.add ((t148).toNat * 5)).block, (ad152.add ((t148).toNat * 5)).off + 2, none⟩ = some (.int .i64 ((rd_T33 t143 t148).f2)) ∧ w'.cell? ⟨(ad152.add ((t148).toNat * 5)).block, (ad152.add ((t148).toNat * 5)).off + 3, none⟩ = some (.int .i64 ((rd_T33 t143 t148).f3)) ∧ w'.cell? ⟨(ad152.add ((t148).toNat * 5)).block, (ad152.add ((t148).toNat * 5)).off + 4, none⟩ = some (.int .i64 ((rd_T33 t143 t148).f4))) (ds := [14]) (bm_ 15 0) (by kernel_rfl) rfl rfl ⟨ct_ BK147.out 0, ct_ BK147.out 1, hx152_0, hx152_1, hx152_2, hx152_3, hx152_4⟩ (fun hHeld => ?_); refine with_tabW spec_l30AnyNet.tab6 spec_l30AnyNet.bits6 (fun HT_ HW_ => ?_)
   generalize w19.drew = w20 at HO145 BK141 BK147 HI0 HK HB hx152_0 hx152_1 hx152_2 hx152_3 hx152_4 hHeld ⊢
   refine pu_ 0 20 (bm_ 15 1) HT_.out ?_
   refine pu_ 2 22 (bm_ 15 5) HT_.out ?_
   refine pu_ 3 23 (bm_ 15 13) HT_.out ?_
   refine pu_ 4 24 (bm_ 15 29) HT_.out ?_
   refine pu_ 6 26 (bm_ 15 93) HT_.out ?_
   refine tk_ 1 21 (bm_ 15 95) HT_.out HW_.out hHeld ?_
   refine tk_ 5 25 (bm_ 15 127) HT_.out HW_.out hHeld ?_
   refine pu_ 7 27 (bm_ 15 255) HT_.out ?_
   refine pu_ 8 28 (bm_ 15 511) HT_.out ?_
   refine tk_ 9 29 (bm_ 15 1023) HT_.out HW_.out hHeld ?_
   refine one_ (i := 10) (N := some 30) (bm_ 15 2047) rfl rfl (one_of HT_.out (by kernel_rfl)) (by decide) (fun K hK => ?_)
   refine ls_ 30 3 [(-1), 8, (rd_T33 t143 t148).f0] [.int .i64 (-1), .int .i64 8, .int .i64 ((rd_T33 t143 t148).f0)] ?_
   intro v154 w21 ho22 hb hg_ hnew_
   have HS2_ := (hb.cell (World.block_lt_of_cell? _ _ (hHeld.2.2.1))).trans (hHeld.2.2.1)
   have HS3_ := (hb.cell (World.block_lt_of_cell? _ _ (hHeld.2.2.2.1))).trans (hHeld.2.2.2.1)
   have HS4_ := (hb.cell (World.block_lt_of_cell? _ _ (hHeld.2.2.2.2.1))).trans (hHeld.2.2.2.2.1)
   have HS5_ := (hb.cell (World.block_lt_of_cell? _ _ (hHeld.2.2.2.2.2.1))).trans (hHeld.2.2.2.2.2.1)
   have HS6_ := (hb.cell (World.block_lt_of_cell? _ _ (hHeld.2.2.2.2.2.2))).trans (hHeld.2.2.2.2.2.2)
   clear hg_ hnew_
   (first | rw [← Ny153.out] at ho22 | (simp only [Int.reduceToNat] at ho22; rw [← Ny153.out] at ho22))
   replace HO145 := kR_ HO145 hb
   have HO155 := Aside0.mk (Kd.R_lower ho22 (keep_size (w := w) (g := g) (row := none) (nk_ HK.out)))
   replace BK141 := kb_ BK141 hb
   replace BK147 := kb_ BK147 hb
   replace HK := Aside0.mk (KeepBut.trans (nk_ HK.out) (KeepBut.of_below hb g none) (.inl rfl))
   replace HB := Aside0.mk (below_step (ng44_8 HB.out) hb)
   replace HI0 := Aside0.mk (IsS44.below (ni44_8 HI0.out) hb)
   clear hb ho22
   obtain ⟨Ao23, co23, eo23⟩ := Kd.R_slice HO155.out
   (first | subst eo23 | (injection eo23 with f1_ f2_ f3_; have f4_ := f1_.symm; have f5_ := f3_.symm; clear f1_ f2_ f3_; subst f4_; subst f5_))
   refine hK.out _ _ ⟨ct_ BK147.out 0, ct_ BK147.out 1, HS2_, HS3_, HS4_, HS5_, HS6_⟩ (fun hHeld => ?_)
   clear hK K
   refine nm1_ (some 30) ?_
   refine one_ (i := 11) (N := some 31) (bm_ 15 4095) rfl rfl (one_of HT_.out (by kernel_rfl)) (by decide) (fun K hK => ?_)
   refine go_ Try.func18 #[.pointer (some ⟨g, 0, none⟩), .slice Ao23 y153.length co23] ?_
   with_reducible refine (spec_l30Rd_one.calls k g s0_0 t151 _ _ y153 t156 t157 w0 _ ?side1 ?side2 ?side3 ?side4 ?side5 A9.out).mono ?_
   (case side1 => repeat (first | (with_reducible first | exact HI0.out | apply IsS44.alloc | apply IsS44.drewN | apply IsS44.drew | apply IsS44.set_1 | refine IsS44.far ?_ NB0_141.out _ | refine IsS44.far ?_ NB0_147.out _) | exact HI0.out))
   (case side2 => exact (ng44_8 HB.out))
   (case side3 => exact nc_ (Kd.R_reads' HO155.out).2.2)
   (case side4 => exact (Kd.R_reads' HO155.out).2.1)
   (case side5 => exact far_slice (IsS44.own_ne HI0.out HO155.out (by decide)))
   rintro e w24 ⟨rfl, hi, hb, hk⟩
   have HS2_ := keep_cell hk (hHeld.2.2.1) (by first | (rw [add_block]; exact Kd.own_blk (IsS44.own_ne HI0.out HO145.out (by decide))) | (show (Addr.add _ _).block ≠ _; rw [add_block]; exact Kd.own_blk (IsS44.own_ne HI0.out HO145.out (by decide))) | exact Kd.own_blk (IsS44.own_ne HI0.out HO145.out (by decide)))
   have HS3_ := keep_cell hk (hHeld.2.2.2.1) (by first | (rw [add_block]; exact Kd.own_blk (IsS44.own_ne HI0.out HO145.out (by decide))) | (show (Addr.add _ _).block ≠ _; rw [add_block]; exact Kd.own_blk (IsS44.own_ne HI0.out HO145.out (by decide))) | exact Kd.own_blk (IsS44.own_ne HI0.out HO145.out (by decide)))
   have HS4_ := keep_cell hk (hHeld.2.2.2.2.1) (by first | (rw [add_block]; exact Kd.own_blk (IsS44.own_ne HI0.out HO145.out (by decide))) | (show (Addr.add _ _).block ≠ _; rw [add_block]; exact Kd.own_blk (IsS44.own_ne HI0.out HO145.out (by decide))) | exact Kd.own_blk (IsS44.own_ne HI0.out HO145.out (by decide)))
   have HS5_ := keep_cell hk (hHeld.2.2.2.2.2.1) (by first | (rw [add_block]; exact Kd.own_blk (IsS44.own_ne HI0.out HO145.out (by decide))) | (show (Addr.add _ _).block ≠ _; rw [add_block]; exact Kd.own_blk (IsS44.own_ne HI0.out HO145.out (by decide))) | exact Kd.own_blk (IsS44.own_ne HI0.out HO145.out (by decide)))
   have HS6_ := keep_cell hk (hHeld.2.2.2.2.2.2) (by first | (rw [add_block]; exact Kd.own_blk (IsS44.own_ne HI0.out HO145.out (by decide))) | (show (Addr.add _ _).block ≠ _; rw [add_block]; exact Kd.own_blk (IsS44.own_ne HI0.out HO145.out (by decide))) | exact Kd.own_blk (IsS44.own_ne HI0.out HO145.out (by decide)))
   refine ⟨_, rfl, ?_⟩
   replace BK141 := kk_ BK141 hk NB141_0
   replace HO145 := Aside0.mk (Kd.R_mono (Kd.R_keep (IsS44.apart (show IsS44 w0 _ g s0_0 t151 from ni44_8 HI0.out) (nr_ HO145.out) (by decide)) hk (fun _ h => h.2)) (fun _ h => h.1))
   replace BK147 := kk_ BK147 hk NB147_0
   replace HO155 := Aside0.mk (Kd.R_mono (Kd.R_keep (IsS44.apart (show IsS44 w0 _ g s0_0 t151 from ni44_8 HI0.out) (nr_ HO155.out) (by decide)) hk (fun _ h => h.2)) (fun _ h => h.1))
   replace HK := Aside0.mk (KeepBut.trans (nk_ HK.out) hk (.inl rfl))
   replace HB := Aside0.mk (hb)
   replace HI0 := Aside0.mk (hi)
   (try clear hb)
   (try clear hb2)
   (try clear hk)
   (try clear hi)
   have p10 : 0 ≤ (t148 : Int) := of_decide_eq_true nx_
   have q10 : (t148 : Int) < ((t143.length : Int) : Int) := of_decide_eq_true nx_
   obtain ⟨go10, co10, eo10, gb10, gl10, cl10, HG10⟩ := Kd.R_form HO145.out (by omega)
   (first | cases eo10 | (injection eo10 with ea_ en_ ec_; (first | subst ea_ | (injection ea_ with ea_; subst ea_)); subst ec_; clear en_))
   have GB10 := Aside0.mk gb10
   have GG10 := Aside0.mk HG10
   clear gb10 gl10 HG10
   (first | simp only [add_plain] at hx152_0 | skip)
   (first | simp only [add_plain] at hx152_1 | skip)
   (first | simp only [add_plain] at hx152_2 | skip)
   (first | simp only [add_plain] at hx152_3 | skip)
   (first | simp only [add_plain] at hx152_4 | skip)
   obtain ⟨ce10, hcl10, hM10, hcc10, hfr10⟩ := Kd.R_elem HO145.out z33 (t148 : Int) p10 q10
   obtain rfl := k33_openM hM10
   have hx10_0 : World.cell? _ ⟨go10, (t148 : Int).toNat * 5, none⟩ = some (.int .i64 ((rd_T33 t143 t148).f0)) := hcc10 0 _ rfl
   have hx10_1 : World.cell? _ ⟨go10, (t148 : Int).toNat * 5 + 1, none⟩ = some (.int .i64 ((rd_T33 t143 t148).f1)) := hcc10 1 _ rfl
   have hx10_2 : World.cell? _ ⟨go10, (t148 : Int).toNat * 5 + 2, none⟩ = some (.int .i64 ((rd_T33 t143 t148).f2)) := hcc10 2 _ rfl
   have hx10_3 : World.cell? _ ⟨go10, (t148 : Int).toNat * 5 + 3, none⟩ = some (.int .i64 ((rd_T33 t143 t148).f3)) := hcc10 3 _ rfl
   have hx10_4 : World.cell? _ ⟨go10, (t148 : Int).toNat * 5 + 4, none⟩ = some (.int .i64 ((rd_T33 t143 t148).f4)) := hcc10 4 _ rfl
   have hf10_0 : World.frozen? _ ⟨go10, (t148 : Int).toNat * 5, none⟩ = false := hfr10 0
   have hf10_1 : World.frozen? _ ⟨go10, (t148 : Int).toNat * 5 + 1, none⟩ = false := hfr10 1
   have hf10_2 : World.frozen? _ ⟨go10, (t148 : Int).toNat * 5 + 2, none⟩ = false := hfr10 2
   have hf10_3 : World.frozen? _ ⟨go10, (t148 : Int).toNat * 5 + 3, none⟩ = false := hfr10 3
   have hf10_4 : World.frozen? _ ⟨go10, (t148 : Int).toNat * 5 + 4, none⟩ = false := hfr10 4
   clear hcl10 hcc10 hfr10 hM10
   replace p10 := eq_true p10
   replace q10 := eq_true q10
   have HN0_go10 := Aside0.mk (show g ≠ go10 from by have h_ := IsS44.own_ne HI0.out HO145.out (by decide); intro e_; exact h_ (by rw [e_]; rfl))
   obtain ⟨ce25, hcl25, hM25, hcc25, hfr25⟩ := Kd.R_elem HO145.out z33 (t148 : Int) (of_decide_eq_true nx_) (by have h_ : (t148 : Int) < ((t143.length : Int) : Int) := of_decide_eq_true nx_; first | exact h_ | (have e_ := (Kd.R_reads' HO145.out).1; omega) | simpa using h_)
   obtain rfl := k33_openM hM25
   have HP25 := (Kd.R_seg HO145.out (t148 : Int) (of_decide_eq_true nx_) (by have h_ : (t148 : Int) < ((t143.length : Int) : Int) := of_decide_eq_true nx_; first | exact h_ | (have e_ := (Kd.R_reads' HO145.out).1; omega) | simpa using h_) (seg := [.int .i64 t156]) (j := 1) hcl25 hcc25 (show 2 ≤ 5 from by decide) (x' := (⟨(rd_T33 t143 t148).f0, t156, (rd_T33 t143 t148).f2, (rd_T33 t143 t148).f3, (rd_T33 t143 t148).f4⟩ : S33)) (k33_mkM _ _ _ (⟨(rd_T33 t143 t148).f0, t156, (rd_T33 t143 t148).f2, (rd_T33 t143 t148).f3, (rd_T33 t143 t148).f4⟩ : S33) ) (fun _ hk => hk)).1
   rw [← Ny158.out] at HP25
   have HQ25 := Aside0.mk HP25
   clear hcl25 hcc25 hfr25 hM25 HP25
   refine hK.out _ _ ⟨ct_ BK147.out 0, ct_ BK147.out 1, HS2_, HS3_, HS4_, HS5_, HS6_⟩ (fun hHeld => ?_)
   clear hK K
   refine nm1_ (some 31) ?_
   refine pu_ 12 32 (bm_ 15 8191) HT_.out ?_
   refine pu_ 13 33 (bm_ 15 16383) HT_.out ?_
   refine last_ (i := 14) (N := none) (bm_ 15 32767) rfl rfl (one_of HT_.out (by kernel_rfl)) (by decide) (fun K hK => ?_)
   refine skip_ (w1 := ?_) (by rfl) rfl ?_ ?_
   rotate_left
   ·go_simp
    rfl
   refine hK.out _ _ ?_
   clear hK K
   refine done_ (done_of HT_.out (by kernel_rfl)) ?_
   have n0_ : Aside0 (Kd.R k33 33 (w24.setCell ⟨go10, (t148 : Int).toNat * 5 + 1, none⟩ (.int .i64 t156)) w.heap.size (fun _ => True) (.slice (some ⟨go10, 0, none⟩) t143.length co17) y158) := ⟨nr_ HQ25.out⟩
   have n1_ : Aside0 (Kd.R (Kd.int .i64) 3 (w24.setCell ⟨go10, (t148 : Int).toNat * 5 + 1, none⟩ (.int .i64 t156)) w.heap.size (fun _ => True) (.slice Ao23 y153.length co23) y153) := ⟨by (with_reducible repeat (first | apply Kd.R_alloc | apply Kd.R_drewN | apply Kd.R_drew)); exact Kd.R_mono (Kd.R_far (p := ⟨go10, (t148 : Int).toNat * 5 + 1, none⟩) (Kd.R_types HO155.out GG10.out (by decide)) (fun _ hk => hk.2) (.int .i64 t156)) (fun _ hk => trivial)⟩
   have n2_ : Aside0 ((w24.setCell ⟨go10, (t148 : Int).toNat * 5 + 1, none⟩ (.int .i64 t156)).heap[gb141]? = some (.cells #[.int .i64 0, .slice none 0 0] 25 (0, 0))) := ⟨by (with_reducible repeat (first | refine blk_drewN ?_ _ | refine blk_drew ?_ | refine blk_alloc ?_ _)); refine blk_far ?_ (by have h_ := Kd.R_ne HO145.out BK141.out (by decide); intro e_; exact h_ (by rw [e_]; rfl)) _; (with_reducible repeat (first | refine blk_drewN ?_ _ | refine blk_drew ?_ | refine blk_alloc ?_ _)); exact BK141.out⟩
   have n3_ : Aside0 ((w24.setCell ⟨go10, (t148 : Int).toNat * 5 + 1, none⟩ (.int .i64 t156)).heap[gb147]? = some (.cells #[.int .i64 t142, .slice (some ⟨go10, 0, none⟩) t143.length co17] 25 (0, 0))) := ⟨by (with_reducible repeat (first | refine blk_drewN ?_ _ | refine blk_drew ?_ | refine blk_alloc ?_ _)); refine blk_far ?_ (by have h_ := Kd.R_ne HO145.out BK147.out (by decide); intro e_; exact h_ (by rw [e_]; rfl)) _; (with_reducible repeat (first | refine blk_drewN ?_ _ | refine blk_drew ?_ | refine blk_alloc ?_ _)); exact BK147.out⟩
   have n4_ : Aside0 (IsS44 w0 (w24.setCell ⟨go10, (t148 : Int).toNat * 5 + 1, none⟩ (.int .i64 t156)) g s0_0 t157) := ⟨ni44_8 HI0.out⟩
   have n5_ : Aside0 (KeepBut w (w24.setCell ⟨go10, (t148 : Int).toNat * 5 + 1, none⟩ (.int .i64 t156)) g none) := ⟨nk_ HK.out⟩
   have n6_ : Aside0 (Below w0.heap.size w0 (w24.setCell ⟨go10, (t148 : Int).toNat * 5 + 1, none⟩ (.int .i64 t156))) := ⟨by repeat (first | (with_reducible first | exact HB.out | apply below_alloc | apply pw_below_drewN | apply below_drew1 | refine below_set ?_ (Nat.le_trans HL.out GB10.out) | refine below_set ?_ (IsS44.ge HI0.out) | refine below_set ?_ GE141.out | refine below_set ?_ GE147.out) | exact HB.out)⟩
   (try clear HO145)
   (try clear HO155)
   (try clear BK141)
   (try clear BK147)
   (try clear HI0)
   (try clear HK)
   (try clear HB)
   generalize (w24.setCell ⟨go10, (t148 : Int).toNat * 5 + 1, none⟩ (.int .i64 t156)) = w26 at n0_ n1_ n2_ n3_ n4_ n5_ n6_ ⊢
   have HO145 := n0_
   have HO155 := n1_
   have BK141 := n2_
   have BK147 := n3_
   have HI0 := n4_
   have HK := n5_
   have HB := n6_
   clear n0_ n1_ n2_ n3_ n4_ n5_ n6_
   obtain ⟨hcz27_0, hcz27_1, hfz27_0, hfz27_1⟩ := cz2_ BK147.out
   have hnb28 := NB141_0.out
   have hnc28 := NB0_141.out
   obtain ⟨hcz29_0, hcz29_1, hfz29_0, hfz29_1⟩ := cz2_ BK141.out
   try go_wp2
   refine bodyPost_ret (results_cell_row rfl _ _ gb141 25 #[.int .i64 t142, .slice (some ⟨go10, 0, none⟩) t143.length co17] (0, 0) _ rfl (np_ BK141.out) Try.underlying25 rfl (by kernel_rfl)) rfl ?_
   exact ⟨_, nw_, by (with_reducible repeat (first | apply Kd.R_alloc | apply Kd.R_drewN | apply Kd.R_drew)); exact Kd.R_mono (rf2_ (Kd.R_types HO145.out BK141.out (by decide))) (fun _ hk => trivial), ni44_8 HI0.out, by repeat (first | (with_reducible first | exact HB.out | apply below_alloc | apply pw_below_drewN | apply below_drew1 | refine below_set ?_ (IsS44.ge HI0.out) | refine below_set ?_ GE141.out | refine below_set ?_ GE147.out) | exact HB.out), nk_ HK.out⟩
  rw [if_neg c6] at H
  have c6b0 : (t150 == 0) = false := beq_eq_false_iff_ne.mpr c6
  have c6b1 : (t150 != 0) = true := bne_iff_ne.mpr c6
  by_cases c30 : t150 = 1
  rotate_left
  ·rw [if_neg c30] at H
   have c30b0 : (t150 == 1) = false := beq_eq_false_iff_ne.mpr c30
   have c30b1 : (t150 != 1) = true := bne_iff_ne.mpr c30
   by_cases c54 : t150 = 2
   rotate_left
   ·rw [if_neg c54] at H
    have c54b0 : (t150 == 2) = false := beq_eq_false_iff_ne.mpr c54
    have c54b1 : (t150 != 2) = true := bne_iff_ne.mpr c54
    simp only [Option.some.injEq, Prod.mk.injEq] at H
    obtain ⟨rfl, rfl, rfl⟩ := H
    go_enter Try.func8, Try.ntmps8
    go_wp2_with (first | ((with_reducible refine gate_dst (N := 2) rfl ?_); refine bx_ 2 #[.int .i64 0, .slice none 0 0] 25 ?_; intro gb141 hg w72 hbox hb; have BK141 := Aside0.mk (hbox); have GW141 := Aside0.mk (zk_ hg (nk_ HK.out)); have GE141 := Aside0.mk ((Nat.le_trans HW0.out (by rw [hg]; exact (keep_size (w := w) (g := g) (row := none) (nk_ HK.out)) : w.heap.size ≤ gb141) : w0.heap.size ≤ gb141)); have NB0_141 := Aside0.mk ((by rw [hg]; exact Nat.ne_of_lt (IsS44.lt (show IsS44 w0 _ g s0_0 s0_1 from ni44_8 HI0.out)) : g ≠ gb141)); have NB141_0 := Aside0.mk ((by rw [hg]; exact Nat.ne_of_gt (IsS44.lt (show IsS44 w0 _ g s0_0 s0_1 from ni44_8 HI0.out)) : gb141 ≠ g)); replace HI0 := Aside0.mk (IsS44.below (ni44_8 HI0.out) hb); replace HK := Aside0.mk (KeepBut.trans (nk_ HK.out) (KeepBut.of_below hb g none) (.inl rfl)); replace HB := Aside0.mk (below_step (ng44_8 HB.out) hb); clear hb hbox hg) | ((with_reducible refine gate_callee (f := 16) rfl ?_); refine gl_ (some 6) Try.func16 #[.pointer (some ⟨g, 0, none⟩)] ?_; (with_reducible refine (spec_l30Net.calls k g s0_0 s0_1 t142 t143 t146 w0 _ ?side1 ?side2 A2.out).mono ?_); (case side1 => repeat (first | (with_reducible first | exact HI0.out | apply IsS44.alloc | apply IsS44.drewN | apply IsS44.drew | apply IsS44.set_1 | refine IsS44.far ?_ NB0_141.out _) | exact HI0.out)); (case side2 => exact (ng44_8 HB.out)); rintro e w73 ⟨v144, rfl, ho0, hi, hb, hk⟩; refine ⟨_, rfl, ?_⟩; have HO145 := Aside0.mk (Kd.R_lower ho0 (keep_size (w := w) (g := g) (row := none) (nk_ HK.out))); replace BK141 := kk_ BK141 hk NB141_0; replace HK := Aside0.mk (KeepBut.trans (nk_ HK.out) hk (.inl rfl)); replace HB := Aside0.mk (hb); replace HI0 := Aside0.mk (hi); (try clear hb); (try clear hb2); (try clear hk); (try clear hi); (try clear ho0)) | ((with_reducible refine gate_dst (N := 3) rfl ?_); refine bx_ 3 #[.int .i64 0, .slice none 0 0] 25 ?_; intro gb147 hg w74 hbox hb; have BK147 := Aside0.mk (hbox); have GW147 := Aside0.mk (zk_ hg (nk_ HK.out)); have GE147 := Aside0.mk ((Nat.le_trans HW0.out (by rw [hg]; exact (keep_size (w := w) (g := g) (row := none) (nk_ HK.out)) : w.heap.size ≤ gb147) : w0.heap.size ≤ gb147)); have NB141_147 := Aside0.mk (nl_ BK141.out hg); have NB147_141 := Aside0.mk (nm_ BK141.out hg); have NB0_147 := Aside0.mk ((by rw [hg]; exact Nat.ne_of_lt (IsS44.lt (show IsS44 w0 _ g s0_0 t146 from ni44_8 HI0.out)) : g ≠ gb147)); have NB147_0 := Aside0.mk ((by rw [hg]; exact Nat.ne_of_gt (IsS44.lt (show IsS44 w0 _ g s0_0 t146 from ni44_8 HI0.out)) : gb147 ≠ g)); replace HO145 := kR_ HO145 hb; replace HI0 := Aside0.mk (IsS44.below (ni44_8 HI0.out) hb); replace BK141 := kb_ BK141 hb; replace HK := Aside0.mk (KeepBut.trans (nk_ HK.out) (KeepBut.of_below hb g none) (.inl rfl)); replace HB := Aside0.mk (below_step (ng44_8 HB.out) hb); clear hb hbox hg; have hnb75 := NB147_141.out; have hnc75 := NB141_147.out; have hnb76 := NB147_0.out; have hnc76 := NB0_147.out; obtain ⟨hcz77_0, hcz77_1, hfz77_0, hfz77_1⟩ := cz2_ BK147.out; obtain ⟨Ao78, co78, eo78⟩ := Kd.R_slice HO145.out; subst eo78) | ((with_reducible refine gate_callee (f := 17) rfl ?_); refine gl_ (some 15) Try.func17 #[.pointer (some ⟨g, 0, none⟩), .int .i64 (t143.length : Int)] ?_; (with_reducible refine (spec_l30Rd_pick.calls k g s0_0 t146 (t143.length : Int) t148 t149 w0 _ ?side1 ?side2 A4.out).mono ?_); (case side1 => repeat (first | (with_reducible first | exact HI0.out | apply IsS44.alloc | apply IsS44.drewN | apply IsS44.drew | apply IsS44.set_1 | refine IsS44.far ?_ NB0_141.out _ | refine IsS44.far ?_ NB0_147.out _) | exact HI0.out)); (case side2 => exact (ng44_8 HB.out)); rintro e w79 ⟨rfl, hi, hb, hk⟩; refine ⟨_, rfl, ?_⟩; replace BK141 := Aside0.mk (KeepBut.blk hk (g' := gb141) (o := .cells #[.int .i64 0, .slice none 0 0] 25 (0, 0)) (nbf_ BK141.out) NB141_0.out (by simp)); replace HO145 := Aside0.mk (Kd.R_mono (Kd.R_keep (IsS44.apart (show IsS44 w0 _ g s0_0 t146 from ni44_8 HI0.out) (by (with_reducible repeat (first | apply Kd.R_alloc | apply Kd.R_drewN | apply Kd.R_drew)); exact (Kd.R_mono (rf2_ (Kd.R_types HO145.out BK147.out (by decide))) (fun _ h_ => h_.1))) (by decide)) hk (fun _ h => h.2)) (fun _ h => h.1)); replace BK147 := Aside0.mk (KeepBut.blk hk (g' := gb147) (o := .cells #[.int .i64 t142, .slice Ao78 t143.length co78] 25 (0, 0)) (np_ BK147.out) NB147_0.out (by simp)); replace HK := Aside0.mk (KeepBut.trans (nk_ HK.out) hk (.inl rfl)); replace HB := Aside0.mk (hb); replace HI0 := Aside0.mk (hi); (try clear hb); (try clear hb2); (try clear hk); (try clear hi)) | ((with_reducible refine gate_callee (f := 17) rfl ?_); refine gl_ (some 17) Try.func17 #[.pointer (some ⟨g, 0, none⟩), .int .i64 16] ?_; (with_reducible refine (spec_l30Rd_pick.calls k g s0_0 t149 16 t150 t151 w0 _ ?side1 ?side2 A5.out).mono ?_); (case side1 => repeat (first | (with_reducible first | exact HI0.out | apply IsS44.alloc | apply IsS44.drewN | apply IsS44.drew | apply IsS44.set_1 | refine IsS44.far ?_ NB0_141.out _ | refine IsS44.far ?_ NB0_147.out _) | exact HI0.out)); (case side2 => exact (ng44_8 HB.out)); rintro e w80 ⟨rfl, hi, hb, hk⟩; refine ⟨_, rfl, ?_⟩; replace BK141 := kk_ BK141 hk NB141_0; replace HO145 := Aside0.mk (Kd.R_mono (Kd.R_keep (IsS44.apart (show IsS44 w0 _ g s0_0 t149 from ni44_8 HI0.out) (nr_ HO145.out) (by decide)) hk (fun _ h => h.2)) (fun _ h => h.1)); replace BK147 := kk_ BK147 hk NB147_0; replace HK := Aside0.mk (KeepBut.trans (nk_ HK.out) hk (.inl rfl)); replace HB := Aside0.mk (hb); replace HI0 := Aside0.mk (hi); (try clear hb); (try clear hb2); (try clear hk); (try clear hi); obtain ⟨hcz81_0, hcz81_1, hfz81_0, hfz81_1⟩ := cz2_ BK147.out; have hnb82 := NB141_0.out; have hnc82 := NB0_141.out; obtain ⟨hcz83_0, hcz83_1, hfz83_0, hfz83_1⟩ := cz2_ BK141.out))
    refine bodyPost_ret (results_cell_row rfl _ _ gb141 25 #[.int .i64 t142, .slice Ao78 t143.length co78] (0, 0) _ rfl (np_ BK141.out) Try.underlying25 rfl (by kernel_rfl)) rfl ?_
    exact ⟨_, nw_, by (with_reducible repeat (first | apply Kd.R_alloc | apply Kd.R_drewN | apply Kd.R_drew)); exact Kd.R_mono (rf2_ (Kd.R_types HO145.out BK141.out (by decide))) (fun _ hk => trivial), ni44_8 HI0.out, by repeat (first | (with_reducible first | exact HB.out | apply below_alloc | apply pw_below_drewN | apply below_drew1 | refine below_set ?_ (IsS44.ge HI0.out) | refine below_set ?_ GE141.out | refine below_set ?_ GE147.out) | exact HB.out), nk_ HK.out⟩
   rw [if_pos c54] at H
   have c54b0 : (t150 == 2) = true := beq_iff_eq.mpr c54
   have c54b1 : (t150 != 2) = false := bne_eq_false_iff_eq.mpr c54
   clear c54
   obtain ⟨y165, hy165⟩ : ∃ y_ : List Int, y_ = (([0, 1, 9, 8] : List Int)) := ⟨_, rfl⟩
   replace H : ((spec_l30Rd_one.f k s0_0 t151 y165).bind fun bt168 => (some (bt168.1, t143, bt168.2))) = some (r1, r2, r3) := by first | (rw [hy165]; with_reducible exact H) | (have H2_ := (Option.bind_some _ _).symm.trans H; rw [hy165]; with_reducible exact H2_) | (have H2_ := (Option.bind_some _ _).symm.trans H; with_reducible exact H2_) | with_reducible exact H | (rw [hy165]; exact H) | exact H
   have Ny165 := Aside0.mk hy165
   clear hy165
   replace H := Option.bind_eq_some_iff.mp H
   obtain ⟨⟨t168, t169⟩, A550, H⟩ := H
   replace H : (some (t168, t143, t169)) = some (r1, r2, r3) := H
   have A55 := Aside0.mk A550
   clear A550
   simp only [Option.some.injEq, Prod.mk.injEq] at H
   obtain ⟨rfl, rfl, rfl⟩ := H
   go_enter Try.func8, Try.ntmps8
   go_wp2_with (first | ((with_reducible refine gate_dst (N := 2) rfl ?_); refine bx_ 2 #[.int .i64 0, .slice none 0 0] 25 ?_; intro gb141 hg w56 hbox hb; have BK141 := Aside0.mk (hbox); have GW141 := Aside0.mk (zk_ hg (nk_ HK.out)); have GE141 := Aside0.mk ((Nat.le_trans HW0.out (by rw [hg]; exact (keep_size (w := w) (g := g) (row := none) (nk_ HK.out)) : w.heap.size ≤ gb141) : w0.heap.size ≤ gb141)); have NB0_141 := Aside0.mk ((by rw [hg]; exact Nat.ne_of_lt (IsS44.lt (show IsS44 w0 _ g s0_0 s0_1 from ni44_8 HI0.out)) : g ≠ gb141)); have NB141_0 := Aside0.mk ((by rw [hg]; exact Nat.ne_of_gt (IsS44.lt (show IsS44 w0 _ g s0_0 s0_1 from ni44_8 HI0.out)) : gb141 ≠ g)); replace HI0 := Aside0.mk (IsS44.below (ni44_8 HI0.out) hb); replace HK := Aside0.mk (KeepBut.trans (nk_ HK.out) (KeepBut.of_below hb g none) (.inl rfl)); replace HB := Aside0.mk (below_step (ng44_8 HB.out) hb); clear hb hbox hg) | ((with_reducible refine gate_callee (f := 16) rfl ?_); refine gl_ (some 6) Try.func16 #[.pointer (some ⟨g, 0, none⟩)] ?_; (with_reducible refine (spec_l30Net.calls k g s0_0 s0_1 t142 t143 t146 w0 _ ?side1 ?side2 A2.out).mono ?_); (case side1 => repeat (first | (with_reducible first | exact HI0.out | apply IsS44.alloc | apply IsS44.drewN | apply IsS44.drew | apply IsS44.set_1 | refine IsS44.far ?_ NB0_141.out _) | exact HI0.out)); (case side2 => exact (ng44_8 HB.out)); rintro e w57 ⟨v144, rfl, ho0, hi, hb, hk⟩; refine ⟨_, rfl, ?_⟩; have HO145 := Aside0.mk (Kd.R_lower ho0 (keep_size (w := w) (g := g) (row := none) (nk_ HK.out))); replace BK141 := kk_ BK141 hk NB141_0; replace HK := Aside0.mk (KeepBut.trans (nk_ HK.out) hk (.inl rfl)); replace HB := Aside0.mk (hb); replace HI0 := Aside0.mk (hi); (try clear hb); (try clear hb2); (try clear hk); (try clear hi); (try clear ho0)) | ((with_reducible refine gate_dst (N := 3) rfl ?_); refine bx_ 3 #[.int .i64 0, .slice none 0 0] 25 ?_; intro gb147 hg w58 hbox hb; have BK147 := Aside0.mk (hbox); have GW147 := Aside0.mk (zk_ hg (nk_ HK.out)); have GE147 := Aside0.mk ((Nat.le_trans HW0.out (by rw [hg]; exact (keep_size (w := w) (g := g) (row := none) (nk_ HK.out)) : w.heap.size ≤ gb147) : w0.heap.size ≤ gb147)); have NB141_147 := Aside0.mk (nl_ BK141.out hg); have NB147_141 := Aside0.mk (nm_ BK141.out hg); have NB0_147 := Aside0.mk ((by rw [hg]; exact Nat.ne_of_lt (IsS44.lt (show IsS44 w0 _ g s0_0 t146 from ni44_8 HI0.out)) : g ≠ gb147)); have NB147_0 := Aside0.mk ((by rw [hg]; exact Nat.ne_of_gt (IsS44.lt (show IsS44 w0 _ g s0_0 t146 from ni44_8 HI0.out)) : gb147 ≠ g)); replace HO145 := kR_ HO145 hb; replace HI0 := Aside0.mk (IsS44.below (ni44_8 HI0.out) hb); replace BK141 := kb_ BK141 hb; replace HK := Aside0.mk (KeepBut.trans (nk_ HK.out) (KeepBut.of_below hb g none) (.inl rfl)); replace HB := Aside0.mk (below_step (ng44_8 HB.out) hb); clear hb hbox hg; have hnb59 := NB147_141.out; have hnc59 := NB141_147.out; have hnb60 := NB147_0.out; have hnc60 := NB0_147.out; obtain ⟨hcz61_0, hcz61_1, hfz61_0, hfz61_1⟩ := cz2_ BK147.out; obtain ⟨Ao62, co62, eo62⟩ := Kd.R_slice HO145.out; subst eo62) | ((with_reducible refine gate_callee (f := 17) rfl ?_); refine gl_ (some 15) Try.func17 #[.pointer (some ⟨g, 0, none⟩), .int .i64 (t143.length : Int)] ?_; (with_reducible refine (spec_l30Rd_pick.calls k g s0_0 t146 (t143.length : Int) t148 t149 w0 _ ?side1 ?side2 A4.out).mono ?_); (case side1 => repeat (first | (with_reducible first | exact HI0.out | apply IsS44.alloc | apply IsS44.drewN | apply IsS44.drew | apply IsS44.set_1 | refine IsS44.far ?_ NB0_141.out _ | refine IsS44.far ?_ NB0_147.out _) | exact HI0.out)); (case side2 => exact (ng44_8 HB.out)); rintro e w63 ⟨rfl, hi, hb, hk⟩; refine ⟨_, rfl, ?_⟩; replace BK141 := Aside0.mk (KeepBut.blk hk (g' := gb141) (o := .cells #[.int .i64 0, .slice none 0 0] 25 (0, 0)) (nbf_ BK141.out) NB141_0.out (by simp)); replace HO145 := Aside0.mk (Kd.R_mono (Kd.R_keep (IsS44.apart (show IsS44 w0 _ g s0_0 t146 from ni44_8 HI0.out) (by (with_reducible repeat (first | apply Kd.R_alloc | apply Kd.R_drewN | apply Kd.R_drew)); exact (Kd.R_mono (rf2_ (Kd.R_types HO145.out BK147.out (by decide))) (fun _ h_ => h_.1))) (by decide)) hk (fun _ h => h.2)) (fun _ h => h.1)); replace BK147 := Aside0.mk (KeepBut.blk hk (g' := gb147) (o := .cells #[.int .i64 t142, .slice Ao62 t143.length co62] 25 (0, 0)) (np_ BK147.out) NB147_0.out (by simp)); replace HK := Aside0.mk (KeepBut.trans (nk_ HK.out) hk (.inl rfl)); replace HB := Aside0.mk (hb); replace HI0 := Aside0.mk (hi); (try clear hb); (try clear hb2); (try clear hk); (try clear hi)) | ((with_reducible refine gate_callee (f := 17) rfl ?_); refine gl_ (some 17) Try.func17 #[.pointer (some ⟨g, 0, none⟩), .int .i64 16] ?_; (with_reducible refine (spec_l30Rd_pick.calls k g s0_0 t149 16 t150 t151 w0 _ ?side1 ?side2 A5.out).mono ?_); (case side1 => repeat (first | (with_reducible first | exact HI0.out | apply IsS44.alloc | apply IsS44.drewN | apply IsS44.drew | apply IsS44.set_1 | refine IsS44.far ?_ NB0_141.out _ | refine IsS44.far ?_ NB0_147.out _) | exact HI0.out)); (case side2 => exact (ng44_8 HB.out)); rintro e w64 ⟨rfl, hi, hb, hk⟩; refine ⟨_, rfl, ?_⟩; replace BK141 := kk_ BK141 hk NB141_0; replace HO145 := Aside0.mk (Kd.R_mono (Kd.R_keep (IsS44.apart (show IsS44 w0 _ g s0_0 t149 from ni44_8 HI0.out) (nr_ HO145.out) (by decide)) hk (fun _ h => h.2)) (fun _ h => h.1)); replace BK147 := kk_ BK147 hk NB147_0; replace HK := Aside0.mk (KeepBut.trans (nk_ HK.out) hk (.inl rfl)); replace HB := Aside0.mk (hb); replace HI0 := Aside0.mk (hi); (try clear hb); (try clear hb2); (try clear hk); (try clear hi)) | ((with_reducible refine gate_dst (N := 47) rfl ?_); refine li_ 47 3 [0, 1, 9, 8] [.int .i64 0, .int .i64 1, .int .i64 9, .int .i64 8] ?_; intro v166 w65 ho66 hb hg_ hnew_; clear hg_ hnew_; (first | rw [← Ny165.out] at ho66 | (simp only [Int.reduceToNat] at ho66; rw [← Ny165.out] at ho66)); have HO167 := Aside0.mk (Kd.R_lower ho66 (keep_size (w := w) (g := g) (row := none) (nk_ HK.out))); replace HO145 := kR_ HO145 hb; replace HI0 := Aside0.mk (IsS44.below (ni44_8 HI0.out) hb); replace BK141 := kb_ BK141 hb; replace BK147 := kb_ BK147 hb; replace HK := Aside0.mk (KeepBut.trans (nk_ HK.out) (KeepBut.of_below hb g none) (.inl rfl)); replace HB := Aside0.mk (below_step (ng44_8 HB.out) hb); clear hb ho66; obtain ⟨Ao67, co67, eo67⟩ := Kd.R_slice HO167.out; subst eo67) | ((with_reducible refine gate_callee (f := 18) rfl ?_); refine gl_ (some 48) Try.func18 #[.pointer (some ⟨g, 0, none⟩), .slice Ao67 y165.length co67] ?_; (with_reducible refine (spec_l30Rd_one.calls k g s0_0 t151 _ _ y165 t168 t169 w0 _ ?side1 ?side2 ?side3 ?side4 ?side5 A55.out).mono ?_); (case side1 => repeat (first | (with_reducible first | exact HI0.out | apply IsS44.alloc | apply IsS44.drewN | apply IsS44.drew | apply IsS44.set_1 | refine IsS44.far ?_ NB0_141.out _ | refine IsS44.far ?_ NB0_147.out _) | exact HI0.out)); (case side2 => exact (ng44_8 HB.out)); (case side3 => exact nc_ (Kd.R_reads' HO167.out).2.2); (case side4 => exact (Kd.R_reads' HO167.out).2.1); (case side5 => exact far_slice (IsS44.own_ne HI0.out HO167.out (by decide))); rintro e w68 ⟨rfl, hi, hb, hk⟩; refine ⟨_, rfl, ?_⟩; replace BK141 := kk_ BK141 hk NB141_0; replace HO145 := Aside0.mk (Kd.R_mono (Kd.R_keep (IsS44.apart (show IsS44 w0 _ g s0_0 t151 from ni44_8 HI0.out) (nr_ HO145.out) (by decide)) hk (fun _ h => h.2)) (fun _ h => h.1)); replace BK147 := kk_ BK147 hk NB147_0; replace HO167 := Aside0.mk (Kd.R_mono (Kd.R_keep (IsS44.apart (show IsS44 w0 _ g s0_0 t151 from ni44_8 HI0.out) (nr_ HO167.out) (by decide)) hk (fun _ h => h.2)) (fun _ h => h.1)); replace HK := Aside0.mk (KeepBut.trans (nk_ HK.out) hk (.inl rfl)); replace HB := Aside0.mk (hb); replace HI0 := Aside0.mk (hi); (try clear hb); (try clear hb2); (try clear hk); (try clear hi); obtain ⟨hcz69_0, hcz69_1, hfz69_0, hfz69_1⟩ := cz2_ BK147.out; have hnb70 := NB141_0.out; have hnc70 := NB0_141.out; obtain ⟨hcz71_0, hcz71_1, hfz71_0, hfz71_1⟩ := cz2_ BK141.out))
   refine bodyPost_ret (results_cell_row rfl _ _ gb141 25 #[.int .i64 t168, .slice Ao62 t143.length co62] (0, 0) _ rfl (np_ BK141.out) Try.underlying25 rfl (by kernel_rfl)) rfl ?_
   exact ⟨_, nw_, by (with_reducible repeat (first | apply Kd.R_alloc | apply Kd.R_drewN | apply Kd.R_drew)); exact Kd.R_mono (rf2_ (Kd.R_far (p := ⟨gb147, 0, none⟩) (Kd.R_types (Kd.R_types HO145.out BK147.out (by decide)) BK141.out (by decide)) (fun _ hk => hk.1.2) (.int .i64 t168))) (fun _ hk => trivial), ni44_8 HI0.out, by repeat (first | (with_reducible first | exact HB.out | apply below_alloc | apply pw_below_drewN | apply below_drew1 | refine below_set ?_ (IsS44.ge HI0.out) | refine below_set ?_ GE141.out | refine below_set ?_ GE147.out) | exact HB.out), nk_ HK.out⟩
  rw [if_pos c30] at H
  have c30b0 : (t150 == 1) = true := beq_iff_eq.mpr c30
  have c30b1 : (t150 != 1) = false := bne_eq_false_iff_eq.mpr c30
  clear c30
  obtain ⟨y159, hy159⟩ : ∃ y_ : List Int, y_ = (([(-1), 100] : List Int)) := ⟨_, rfl⟩
  replace H : ((spec_l30Rd_one.f k s0_0 t151 y159).bind fun bt162 => (if 0 ≤ t148 then (if t148 < (t143.length : Int) then (some (t142, (t143.set (t148 : Int).toNat (⟨(rd_T33 t143 t148).f0, (rd_T33 t143 t148).f1, bt162.1, (rd_T33 t143 t148).f3, (rd_T33 t143 t148).f4⟩ : S33)), bt162.2)) else (none)) else (none))) = some (r1, r2, r3) := by first | (rw [hy159]; with_reducible exact H) | (have H2_ := (Option.bind_some _ _).symm.trans H; rw [hy159]; with_reducible exact H2_) | (have H2_ := (Option.bind_some _ _).symm.trans H; with_reducible exact H2_) | with_reducible exact H | (rw [hy159]; exact H) | exact H
  have Ny159 := Aside0.mk hy159
  clear hy159
  replace H := Option.bind_eq_some_iff.mp H
  obtain ⟨⟨t162, t163⟩, A310, H⟩ := H
  try dsimp only at H
  have A31 := Aside0.mk A310
  clear A310
  by_cases c32 : 0 ≤ t148
  rotate_left
  ·rw [if_neg c32] at H
   exact absurd H (by simp)
  rw [if_pos c32] at H
  have c32b0 : decide (0 ≤ t148) = true := decide_eq_true c32
  clear c32
  by_cases c33 : t148 < (t143.length : Int)
  rotate_left
  ·rw [if_neg c33] at H
   exact absurd H (by simp)
  rw [if_pos c33] at H
  have c33b0 : decide (t148 < (t143.length : Int)) = true := decide_eq_true c33
  clear c33
  obtain ⟨y164, hy164⟩ : ∃ y_ : List (S33), y_ = (t143.set (t148 : Int).toNat (⟨(rd_T33 t143 t148).f0, (rd_T33 t143 t148).f1, t162, (rd_T33 t143 t148).f3, (rd_T33 t143 t148).f4⟩ : S33)) := ⟨_, rfl⟩
  replace H : (some (t142, y164, t163)) = some (r1, r2, r3) := by first | (rw [hy164]; with_reducible exact H) | (have H2_ := (Option.bind_some _ _).symm.trans H; rw [hy164]; with_reducible exact H2_) | (have H2_ := (Option.bind_some _ _).symm.trans H; with_reducible exact H2_) | with_reducible exact H | (rw [hy164]; exact H) | exact H
  have Ny164 := Aside0.mk hy164
  clear hy164
  simp only [Option.some.injEq, Prod.mk.injEq] at H
  obtain ⟨rfl, rfl, rfl⟩ := H
  go_enter Try.func8, Try.ntmps8
  try go_wp2_with (first | ((with_reducible refine gate_dst (N := 2) rfl ?_); refine bx_ 2 #[.int .i64 0, .slice none 0 0] 25 ?_; intro gb141 hg w35 hbox hb; have BK141 := Aside0.mk (hbox); have GW141 := Aside0.mk (zk_ hg (nk_ HK.out)); have GE141 := Aside0.mk ((Nat.le_trans HW0.out (by rw [hg]; exact (keep_size (w := w) (g := g) (row := none) (nk_ HK.out)) : w.heap.size ≤ gb141) : w0.heap.size ≤ gb141)); have NB0_141 := Aside0.mk ((by rw [hg]; exact Nat.ne_of_lt (IsS44.lt (show IsS44 w0 _ g s0_0 s0_1 from ni44_8 HI0.out)) : g ≠ gb141)); have NB141_0 := Aside0.mk ((by rw [hg]; exact Nat.ne_of_gt (IsS44.lt (show IsS44 w0 _ g s0_0 s0_1 from ni44_8 HI0.out)) : gb141 ≠ g)); replace HI0 := Aside0.mk (IsS44.below (ni44_8 HI0.out) hb); replace HK := Aside0.mk (KeepBut.trans (nk_ HK.out) (KeepBut.of_below hb g none) (.inl rfl)); replace HB := Aside0.mk (below_step (ng44_8 HB.out) hb); clear hb hbox hg) | ((with_reducible refine gate_callee (f := 16) rfl ?_); refine gl_ (some 6) Try.func16 #[.pointer (some ⟨g, 0, none⟩)] ?_; (with_reducible refine (spec_l30Net.calls k g s0_0 s0_1 t142 t143 t146 w0 _ ?side1 ?side2 A2.out).mono ?_); (case side1 => repeat (first | (with_reducible first | exact HI0.out | apply IsS44.alloc | apply IsS44.drewN | apply IsS44.drew | apply IsS44.set_1 | refine IsS44.far ?_ NB0_141.out _) | exact HI0.out)); (case side2 => exact (ng44_8 HB.out)); rintro e w36 ⟨v144, rfl, ho0, hi, hb, hk⟩; refine ⟨_, rfl, ?_⟩; have HO145 := Aside0.mk (Kd.R_lower ho0 (keep_size (w := w) (g := g) (row := none) (nk_ HK.out))); replace BK141 := kk_ BK141 hk NB141_0; replace HK := Aside0.mk (KeepBut.trans (nk_ HK.out) hk (.inl rfl)); replace HB := Aside0.mk (hb); replace HI0 := Aside0.mk (hi); (try clear hb); (try clear hb2); (try clear hk); (try clear hi); (try clear ho0)) | ((with_reducible refine gate_dst (N := 3) rfl ?_); refine bx_ 3 #[.int .i64 0, .slice none 0 0] 25 ?_; intro gb147 hg w37 hbox hb; have BK147 := Aside0.mk (hbox); have GW147 := Aside0.mk (zk_ hg (nk_ HK.out)); have GE147 := Aside0.mk ((Nat.le_trans HW0.out (by rw [hg]; exact (keep_size (w := w) (g := g) (row := none) (nk_ HK.out)) : w.heap.size ≤ gb147) : w0.heap.size ≤ gb147)); have NB141_147 := Aside0.mk (nl_ BK141.out hg); have NB147_141 := Aside0.mk (nm_ BK141.out hg); have NB0_147 := Aside0.mk ((by rw [hg]; exact Nat.ne_of_lt (IsS44.lt (show IsS44 w0 _ g s0_0 t146 from ni44_8 HI0.out)) : g ≠ gb147)); have NB147_0 := Aside0.mk ((by rw [hg]; exact Nat.ne_of_gt (IsS44.lt (show IsS44 w0 _ g s0_0 t146 from ni44_8 HI0.out)) : gb147 ≠ g)); replace HO145 := kR_ HO145 hb; replace HI0 := Aside0.mk (IsS44.below (ni44_8 HI0.out) hb); replace BK141 := kb_ BK141 hb; replace HK := Aside0.mk (KeepBut.trans (nk_ HK.out) (KeepBut.of_below hb g none) (.inl rfl)); replace HB := Aside0.mk (below_step (ng44_8 HB.out) hb); clear hb hbox hg; have hnb38 := NB147_141.out; have hnc38 := NB141_147.out; have hnb39 := NB147_0.out; have hnc39 := NB0_147.out; obtain ⟨hcz40_0, hcz40_1, hfz40_0, hfz40_1⟩ := cz2_ BK147.out; obtain ⟨Ao41, co41, eo41⟩ := Kd.R_slice HO145.out; subst eo41) | ((with_reducible refine gate_callee (f := 17) rfl ?_); refine gl_ (some 15) Try.func17 #[.pointer (some ⟨g, 0, none⟩), .int .i64 (t143.length : Int)] ?_; (with_reducible refine (spec_l30Rd_pick.calls k g s0_0 t146 (t143.length : Int) t148 t149 w0 _ ?side1 ?side2 A4.out).mono ?_); (case side1 => repeat (first | (with_reducible first | exact HI0.out | apply IsS44.alloc | apply IsS44.drewN | apply IsS44.drew | apply IsS44.set_1 | refine IsS44.far ?_ NB0_141.out _ | refine IsS44.far ?_ NB0_147.out _) | exact HI0.out)); (case side2 => exact (ng44_8 HB.out)); rintro e w42 ⟨rfl, hi, hb, hk⟩; refine ⟨_, rfl, ?_⟩; replace BK141 := Aside0.mk (KeepBut.blk hk (g' := gb141) (o := .cells #[.int .i64 0, .slice none 0 0] 25 (0, 0)) (nbf_ BK141.out) NB141_0.out (by simp)); replace HO145 := Aside0.mk (Kd.R_mono (Kd.R_keep (IsS44.apart (show IsS44 w0 _ g s0_0 t146 from ni44_8 HI0.out) (by (with_reducible repeat (first | apply Kd.R_alloc | apply Kd.R_drewN | apply Kd.R_drew)); exact (Kd.R_mono (rf2_ (Kd.R_types HO145.out BK147.out (by decide))) (fun _ h_ => h_.1))) (by decide)) hk (fun _ h => h.2)) (fun _ h => h.1)); replace BK147 := Aside0.mk (KeepBut.blk hk (g' := gb147) (o := .cells #[.int .i64 t142, .slice Ao41 t143.length co41] 25 (0, 0)) (np_ BK147.out) NB147_0.out (by simp)); replace HK := Aside0.mk (KeepBut.trans (nk_ HK.out) hk (.inl rfl)); replace HB := Aside0.mk (hb); replace HI0 := Aside0.mk (hi); (try clear hb); (try clear hb2); (try clear hk); (try clear hi)) | ((with_reducible refine gate_callee (f := 17) rfl ?_); refine gl_ (some 17) Try.func17 #[.pointer (some ⟨g, 0, none⟩), .int .i64 16] ?_; (with_reducible refine (spec_l30Rd_pick.calls k g s0_0 t149 16 t150 t151 w0 _ ?side1 ?side2 A5.out).mono ?_); (case side1 => repeat (first | (with_reducible first | exact HI0.out | apply IsS44.alloc | apply IsS44.drewN | apply IsS44.drew | apply IsS44.set_1 | refine IsS44.far ?_ NB0_141.out _ | refine IsS44.far ?_ NB0_147.out _) | exact HI0.out)); (case side2 => exact (ng44_8 HB.out)); rintro e w43 ⟨rfl, hi, hb, hk⟩; refine ⟨_, rfl, ?_⟩; replace BK141 := kk_ BK141 hk NB141_0; replace HO145 := Aside0.mk (Kd.R_mono (Kd.R_keep (IsS44.apart (show IsS44 w0 _ g s0_0 t149 from ni44_8 HI0.out) (nr_ HO145.out) (by decide)) hk (fun _ h => h.2)) (fun _ h => h.1)); replace BK147 := kk_ BK147 hk NB147_0; replace HK := Aside0.mk (KeepBut.trans (nk_ HK.out) hk (.inl rfl)); replace HB := Aside0.mk (hb); replace HI0 := Aside0.mk (hi); (try clear hb); (try clear hb2); (try clear hk); (try clear hi)))
  replace HO145 := Aside0.mk (Kd.R_drew HO145.out)
  replace BK141 := Aside0.mk (blk_drew BK141.out)
  replace BK147 := Aside0.mk (blk_drew BK147.out)
  replace HI0 := Aside0.mk (IsS44.drew HI0.out)
  replace HK := Aside0.mk (keep_drew HK.out)
  replace HB := Aside0.mk (below_drew1 HB.out)
  refine start_ (n := 9) (S := fun w' => w'.cell? ⟨gb147, 0, none⟩ = some (.int .i64 t142) ∧ w'.cell? ⟨gb147, 1, none⟩ = some (.slice Ao41 t143.length co41)) (ds := [8]) (bm_ 9 0) (by kernel_rfl) rfl rfl ⟨ct_ BK147.out 0, ct_ BK147.out 1⟩ (fun hHeld => ?_); refine with_tabW spec_l30AnyNet.tab8 spec_l30AnyNet.bits8 (fun HT_ HW_ => ?_)
  generalize w43.drew = w44 at HO145 BK141 BK147 HI0 HK HB hHeld ⊢
  refine pu_ 0 36 (bm_ 9 1) HT_.out ?_
  refine pu_ 2 38 (bm_ 9 5) HT_.out ?_
  refine pu_ 3 39 (bm_ 9 13) HT_.out ?_
  refine tk_ 1 37 (bm_ 9 15) HT_.out HW_.out hHeld ?_
  refine one_ (i := 4) (N := some 40) (bm_ 9 31) rfl rfl (one_of HT_.out (by kernel_rfl)) (by decide) (fun K hK => ?_)
  refine ls_ 40 3 [(-1), 100] [.int .i64 (-1), .int .i64 100] ?_
  intro v160 w45 ho46 hb hg_ hnew_
  clear hg_ hnew_
  (first | rw [← Ny159.out] at ho46 | (simp only [Int.reduceToNat] at ho46; rw [← Ny159.out] at ho46))
  replace HO145 := kR_ HO145 hb
  have HO161 := Aside0.mk (Kd.R_lower ho46 (keep_size (w := w) (g := g) (row := none) (nk_ HK.out)))
  replace BK141 := kb_ BK141 hb
  replace BK147 := kb_ BK147 hb
  replace HK := Aside0.mk (KeepBut.trans (nk_ HK.out) (KeepBut.of_below hb g none) (.inl rfl))
  replace HB := Aside0.mk (below_step (ng44_8 HB.out) hb)
  replace HI0 := Aside0.mk (IsS44.below (ni44_8 HI0.out) hb)
  clear hb ho46
  obtain ⟨Ao47, co47, eo47⟩ := Kd.R_slice HO161.out
  (first | subst eo47 | (injection eo47 with f1_ f2_ f3_; have f4_ := f1_.symm; have f5_ := f3_.symm; clear f1_ f2_ f3_; subst f4_; subst f5_))
  refine hK.out _ _ ⟨ct_ BK147.out 0, ct_ BK147.out 1⟩ (fun hHeld => ?_)
  clear hK K
  refine nm1_ (some 40) ?_
  refine one_ (i := 5) (N := some 41) (bm_ 9 63) rfl rfl (one_of HT_.out (by kernel_rfl)) (by decide) (fun K hK => ?_)
  refine go_ Try.func18 #[.pointer (some ⟨g, 0, none⟩), .slice Ao47 y159.length co47] ?_
  with_reducible refine (spec_l30Rd_one.calls k g s0_0 t151 _ _ y159 t162 t163 w0 _ ?side1 ?side2 ?side3 ?side4 ?side5 A31.out).mono ?_
  (case side1 => repeat (first | (with_reducible first | exact HI0.out | apply IsS44.alloc | apply IsS44.drewN | apply IsS44.drew | apply IsS44.set_1 | refine IsS44.far ?_ NB0_141.out _ | refine IsS44.far ?_ NB0_147.out _) | exact HI0.out))
  (case side2 => exact (ng44_8 HB.out))
  (case side3 => exact nc_ (Kd.R_reads' HO161.out).2.2)
  (case side4 => exact (Kd.R_reads' HO161.out).2.1)
  (case side5 => exact far_slice (IsS44.own_ne HI0.out HO161.out (by decide)))
  rintro e w48 ⟨rfl, hi, hb, hk⟩
  refine ⟨_, rfl, ?_⟩
  replace BK141 := kk_ BK141 hk NB141_0
  replace HO145 := Aside0.mk (Kd.R_mono (Kd.R_keep (IsS44.apart (show IsS44 w0 _ g s0_0 t151 from ni44_8 HI0.out) (nr_ HO145.out) (by decide)) hk (fun _ h => h.2)) (fun _ h => h.1))
  replace BK147 := kk_ BK147 hk NB147_0
  replace HO161 := Aside0.mk (Kd.R_mono (Kd.R_keep (IsS44.apart (show IsS44 w0 _ g s0_0 t151 from ni44_8 HI0.out) (nr_ HO161.out) (by decide)) hk (fun _ h => h.2)) (fun _ h => h.1))
  replace HK := Aside0.mk (KeepBut.trans (nk_ HK.out) hk (.inl rfl))
  replace HB := Aside0.mk (hb)
  replace HI0 := Aside0.mk (hi)
  (try clear hb)
  (try clear hb2)
  (try clear hk)
  (try clear hi)
  have p34 : 0 ≤ (t148 : Int) := of_decide_eq_true nx_
  have q34 : (t148 : Int) < ((t143.length : Int) : Int) := of_decide_eq_true nx_
  obtain ⟨go34, co34, eo34, gb34, gl34, cl34, HG34⟩ := Kd.R_form HO145.out (by omega)
  (first | cases eo34 | (injection eo34 with ea_ en_ ec_; (first | subst ea_ | (injection ea_ with ea_; subst ea_)); subst ec_; clear en_))
  have GB34 := Aside0.mk gb34
  have GG34 := Aside0.mk HG34
  clear gb34 gl34 HG34
  obtain ⟨ce34, hcl34, hM34, hcc34, hfr34⟩ := Kd.R_elem HO145.out z33 (t148 : Int) p34 q34
  obtain rfl := k33_openM hM34
  have hx34_0 : World.cell? _ ⟨go34, (t148 : Int).toNat * 5, none⟩ = some (.int .i64 ((rd_T33 t143 t148).f0)) := hcc34 0 _ rfl
  have hx34_1 : World.cell? _ ⟨go34, (t148 : Int).toNat * 5 + 1, none⟩ = some (.int .i64 ((rd_T33 t143 t148).f1)) := hcc34 1 _ rfl
  have hx34_2 : World.cell? _ ⟨go34, (t148 : Int).toNat * 5 + 2, none⟩ = some (.int .i64 ((rd_T33 t143 t148).f2)) := hcc34 2 _ rfl
  have hx34_3 : World.cell? _ ⟨go34, (t148 : Int).toNat * 5 + 3, none⟩ = some (.int .i64 ((rd_T33 t143 t148).f3)) := hcc34 3 _ rfl
  have hx34_4 : World.cell? _ ⟨go34, (t148 : Int).toNat * 5 + 4, none⟩ = some (.int .i64 ((rd_T33 t143 t148).f4)) := hcc34 4 _ rfl
  have hf34_0 : World.frozen? _ ⟨go34, (t148 : Int).toNat * 5, none⟩ = false := hfr34 0
  have hf34_1 : World.frozen? _ ⟨go34, (t148 : Int).toNat * 5 + 1, none⟩ = false := hfr34 1
  have hf34_2 : World.frozen? _ ⟨go34, (t148 : Int).toNat * 5 + 2, none⟩ = false := hfr34 2
  have hf34_3 : World.frozen? _ ⟨go34, (t148 : Int).toNat * 5 + 3, none⟩ = false := hfr34 3
  have hf34_4 : World.frozen? _ ⟨go34, (t148 : Int).toNat * 5 + 4, none⟩ = false := hfr34 4
  clear hcl34 hcc34 hfr34 hM34
  replace p34 := eq_true p34
  replace q34 := eq_true q34
  have HN0_go34 := Aside0.mk (show g ≠ go34 from by have h_ := IsS44.own_ne HI0.out HO145.out (by decide); intro e_; exact h_ (by rw [e_]; rfl))
  obtain ⟨ce49, hcl49, hM49, hcc49, hfr49⟩ := Kd.R_elem HO145.out z33 (t148 : Int) (of_decide_eq_true nx_) (by have h_ : (t148 : Int) < ((t143.length : Int) : Int) := of_decide_eq_true nx_; first | exact h_ | (have e_ := (Kd.R_reads' HO145.out).1; omega) | simpa using h_)
  obtain rfl := k33_openM hM49
  have HP49 := (Kd.R_seg HO145.out (t148 : Int) (of_decide_eq_true nx_) (by have h_ : (t148 : Int) < ((t143.length : Int) : Int) := of_decide_eq_true nx_; first | exact h_ | (have e_ := (Kd.R_reads' HO145.out).1; omega) | simpa using h_) (seg := [.int .i64 t162]) (j := 2) hcl49 hcc49 (show 3 ≤ 5 from by decide) (x' := (⟨(rd_T33 t143 t148).f0, (rd_T33 t143 t148).f1, t162, (rd_T33 t143 t148).f3, (rd_T33 t143 t148).f4⟩ : S33)) (k33_mkM _ _ _ (⟨(rd_T33 t143 t148).f0, (rd_T33 t143 t148).f1, t162, (rd_T33 t143 t148).f3, (rd_T33 t143 t148).f4⟩ : S33) ) (fun _ hk => hk)).1
  rw [← Ny164.out] at HP49
  have HQ49 := Aside0.mk HP49
  clear hcl49 hcc49 hfr49 hM49 HP49
  refine hK.out _ _ ⟨ct_ BK147.out 0, ct_ BK147.out 1⟩ (fun hHeld => ?_)
  clear hK K
  refine nm1_ (some 41) ?_
  refine pu_ 6 42 (bm_ 9 127) HT_.out ?_
  refine pu_ 7 43 (bm_ 9 255) HT_.out ?_
  refine last_ (i := 8) (N := none) (bm_ 9 511) rfl rfl (one_of HT_.out (by kernel_rfl)) (by decide) (fun K hK => ?_)
  refine skip_ (w1 := ?_) (by rfl) rfl ?_ ?_
  rotate_left
  ·go_simp
   rfl
  refine hK.out _ _ ?_
  clear hK K
  refine done_ (done_of HT_.out (by kernel_rfl)) ?_
  have n0_ : Aside0 (Kd.R k33 33 (w48.setCell ⟨go34, (t148 : Int).toNat * 5 + 2, none⟩ (.int .i64 t162)) w.heap.size (fun _ => True) (.slice (some ⟨go34, 0, none⟩) t143.length co41) y164) := ⟨nr_ HQ49.out⟩
  have n1_ : Aside0 (Kd.R (Kd.int .i64) 3 (w48.setCell ⟨go34, (t148 : Int).toNat * 5 + 2, none⟩ (.int .i64 t162)) w.heap.size (fun _ => True) (.slice Ao47 y159.length co47) y159) := ⟨by (with_reducible repeat (first | apply Kd.R_alloc | apply Kd.R_drewN | apply Kd.R_drew)); exact Kd.R_mono (Kd.R_far (p := ⟨go34, (t148 : Int).toNat * 5 + 2, none⟩) (Kd.R_types HO161.out GG34.out (by decide)) (fun _ hk => hk.2) (.int .i64 t162)) (fun _ hk => trivial)⟩
  have n2_ : Aside0 ((w48.setCell ⟨go34, (t148 : Int).toNat * 5 + 2, none⟩ (.int .i64 t162)).heap[gb141]? = some (.cells #[.int .i64 0, .slice none 0 0] 25 (0, 0))) := ⟨by (with_reducible repeat (first | refine blk_drewN ?_ _ | refine blk_drew ?_ | refine blk_alloc ?_ _)); refine blk_far ?_ (by have h_ := Kd.R_ne HO145.out BK141.out (by decide); intro e_; exact h_ (by rw [e_]; rfl)) _; (with_reducible repeat (first | refine blk_drewN ?_ _ | refine blk_drew ?_ | refine blk_alloc ?_ _)); exact BK141.out⟩
  have n3_ : Aside0 ((w48.setCell ⟨go34, (t148 : Int).toNat * 5 + 2, none⟩ (.int .i64 t162)).heap[gb147]? = some (.cells #[.int .i64 t142, .slice (some ⟨go34, 0, none⟩) t143.length co41] 25 (0, 0))) := ⟨by (with_reducible repeat (first | refine blk_drewN ?_ _ | refine blk_drew ?_ | refine blk_alloc ?_ _)); refine blk_far ?_ (by have h_ := Kd.R_ne HO145.out BK147.out (by decide); intro e_; exact h_ (by rw [e_]; rfl)) _; (with_reducible repeat (first | refine blk_drewN ?_ _ | refine blk_drew ?_ | refine blk_alloc ?_ _)); exact BK147.out⟩
  have n4_ : Aside0 (IsS44 w0 (w48.setCell ⟨go34, (t148 : Int).toNat * 5 + 2, none⟩ (.int .i64 t162)) g s0_0 t163) := ⟨ni44_8 HI0.out⟩
  have n5_ : Aside0 (KeepBut w (w48.setCell ⟨go34, (t148 : Int).toNat * 5 + 2, none⟩ (.int .i64 t162)) g none) := ⟨nk_ HK.out⟩
  have n6_ : Aside0 (Below w0.heap.size w0 (w48.setCell ⟨go34, (t148 : Int).toNat * 5 + 2, none⟩ (.int .i64 t162))) := ⟨by repeat (first | (with_reducible first | exact HB.out | apply below_alloc | apply pw_below_drewN | apply below_drew1 | refine below_set ?_ (Nat.le_trans HL.out GB34.out) | refine below_set ?_ (IsS44.ge HI0.out) | refine below_set ?_ GE141.out | refine below_set ?_ GE147.out) | exact HB.out)⟩
  (try clear HO145)
  (try clear HO161)
  (try clear BK141)
  (try clear BK147)
  (try clear HI0)
  (try clear HK)
  (try clear HB)
  generalize (w48.setCell ⟨go34, (t148 : Int).toNat * 5 + 2, none⟩ (.int .i64 t162)) = w50 at n0_ n1_ n2_ n3_ n4_ n5_ n6_ ⊢
  have HO145 := n0_
  have HO161 := n1_
  have BK141 := n2_
  have BK147 := n3_
  have HI0 := n4_
  have HK := n5_
  have HB := n6_
  clear n0_ n1_ n2_ n3_ n4_ n5_ n6_
  obtain ⟨hcz51_0, hcz51_1, hfz51_0, hfz51_1⟩ := cz2_ BK147.out
  have hnb52 := NB141_0.out
  have hnc52 := NB0_141.out
  obtain ⟨hcz53_0, hcz53_1, hfz53_0, hfz53_1⟩ := cz2_ BK141.out
  try go_wp2
  refine bodyPost_ret (results_cell_row rfl _ _ gb141 25 #[.int .i64 t142, .slice (some ⟨go34, 0, none⟩) t143.length co41] (0, 0) _ rfl (np_ BK141.out) Try.underlying25 rfl (by kernel_rfl)) rfl ?_
  exact ⟨_, nw_, by (with_reducible repeat (first | apply Kd.R_alloc | apply Kd.R_drewN | apply Kd.R_drew)); exact Kd.R_mono (rf2_ (Kd.R_types HO145.out BK141.out (by decide))) (fun _ hk => trivial), ni44_8 HI0.out, by repeat (first | (with_reducible first | exact HB.out | apply below_alloc | apply pw_below_drewN | apply below_drew1 | refine below_set ?_ (IsS44.ge HI0.out) | refine below_set ?_ GE141.out | refine below_set ?_ GE147.out) | exact HB.out), nk_ HK.out⟩
end Go.Proofs.Ytahcomglicodlaa.Print
