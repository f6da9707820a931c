-- Made by this session's own program (wip/patch_print.py, over the kit's print). Lean checks it.
import Derived.Test.YtahcomglicodlaaPrint0
import Derived.Test.YtahcomglicodlaaPrintB
import Derived.Test.YtahcomglicodlaaPrintF17
import Derived.Test.YtahcomglicodlaaPrintF18
namespace Go.Proofs.Ytahcomglicodlaa.Print
open Go.RowKit Go.Proofs.YtahcomglicodlaaW.PrintWords Go.Proofs.YtahcomglicodlaaW.PrintLast Go.Proofs.YtahcomglicodlaaW.PrintMore Go.Proofs.YtahcomglicodlaaX
attribute [local go_sem] max2_int min2_int max_two min_two max_three min_three max_four min_four   -- for this text's walks alone
set_option linter.unusedVariables false
set_option linter.unusedSimpArgs false

abbrev z16_0 := bm_ 21 1048575
abbrev z16_1 := bm_ 21 524287
abbrev z16_2 := bm_ 21 655359
abbrev z16_3 := bm_ 21 131071
abbrev z16_4 := bm_ 21 622591
abbrev z16_5 := bm_ 21 98303
abbrev z16_6 := bm_ 21 606207
abbrev z16_7 := bm_ 21 618495
abbrev z16_8 := bm_ 21 81919
abbrev z16_9 := bm_ 21 94207
abbrev z16_10 := bm_ 21 602111
abbrev z16_11 := bm_ 21 616447
abbrev z16_12 := bm_ 21 77823
abbrev z16_13 := bm_ 21 92159
abbrev z16_14 := bm_ 21 600063
abbrev z16_15 := bm_ 21 615423
abbrev z16_16 := bm_ 21 75775
abbrev z16_17 := bm_ 21 91135
abbrev z16_18 := bm_ 21 599039
abbrev z16_19 := bm_ 21 615295
abbrev z16_20 := bm_ 21 74751
abbrev z16_21 := bm_ 21 91007
abbrev z16_22 := bm_ 21 598911
abbrev z16_23 := bm_ 21 615287
abbrev z16_24 := bm_ 21 74623
abbrev z16_25 := bm_ 21 90999
abbrev z16_26 := bm_ 21 598903
abbrev rA16 := @Kd.R_alloc
abbrev rN16 := @Kd.R_drewN
abbrev rB16 := @Kd.R_below
theorem ng44_16 {B : Nat} {w W W' : World} (h : Below B w W) (e : Below B w W → Below B w W' := by intro h_; repeat (first | (with_reducible first | exact h_ | apply below_alloc | apply pw_below_drewN | apply below_drew1 | refine below_set ?_ (IsS44.ge (Aside0.out (by with_reducible assumption))) | refine below_set ?_ (Aside0.out (by with_reducible assumption))) | exact h_)) : Below B w W' := e h
theorem ni44_16 {p q : Prop} (h : p) (e : p → q := by intro h_; repeat (first | (with_reducible first | exact h_ | apply IsS44.alloc | apply IsS44.drewN | apply IsS44.drew | apply IsS44.set_1 | refine IsS44.far ?_ (Aside0.out (by with_reducible assumption)) _) | exact h_)) : q := e h
attribute [local go_sem ↓] Go.Proofs.YtahcomglicodlaaX.isSome_set
/-! ### spec_l30Net: function 16 -/
def spec_l30Net.l0 : Nat → Int → List Int → Int → Int → List (S33) → Option (Int × (List (S33)) × Int)
  | 0, _, _, _, _, _ => none
  | k + 1, x4, x1000, x1001, x114000, x114001 => if x4 > 0 then ((spec_l30Rd_pick.f k x1000 x1001 x114000).bind fun bt116 => ((spec_l30Rd_pick.f k x1000 bt116.2 x114000).bind fun bt118 => ((spec_l30Rd_pick.f k x1000 bt118.2 100).bind fun bt120 => ((spec_l30Rd_one.f k x1000 bt120.2 (([0, 1, 2, 5, 9, bt120.1] : List Int))).bind fun bt125 => ((spec_l30Rd_one.f k x1000 bt125.2 (([0, 0, 3, 8] : List Int))).bind fun bt130 => ((spec_l30Rd_pick.f k x1000 bt130.2 10).bind fun bt132 => (if bt116.1 = bt118.1 then (if x114000 = 0 then (none) else (if x114001.length < 3518437208883 then (spec_l30Net.l0 k (wrap64 (x4 - 1)) x1000 bt132.2 x114000 (x114001 ++ [(⟨bt116.1, Int.tmod (wrap64 (bt118.1 + 1)) x114000, bt125.1, bt130.1, bt132.1⟩ : S33)])) else (none))) else (if x114001.length < 3518437208883 then (spec_l30Net.l0 k (wrap64 (x4 - 1)) x1000 bt132.2 x114000 (x114001 ++ [(⟨bt116.1, bt118.1, bt125.1, bt130.1, bt132.1⟩ : S33)])) else (none))))))))) else (some (x114000, x114001, x1001))
def spec_l30Net.f (k : Nat) (s0_0 : List Int) (s0_1 : Int) : Option (Int × (List (S33)) × Int) := (spec_l30Rd_pick.f k s0_0 s0_1 5).bind fun bt111 => ((spec_l30Rd_pick.f k s0_0 bt111.2 14).bind fun bt114 => (spec_l30Net.l0 k bt114.1 s0_0 bt114.2 (wrap64 (2 + bt111.1)) ([] : List (S33))))
theorem spec_l30Net.mono_l : ∀ k, (∀ y0 y1 y2 y3 y4, LeO (spec_l30Net.l0 k y0 y1 y2 y3 y4) (spec_l30Net.l0 (k + 1) y0 y1 y2 y3 y4))
  | 0 => fun _ _ _ _ _ r h => by simp [spec_l30Net.l0] at h
  | k + 1 => by
    have ih0 := spec_l30Net.mono_l k
    · intro y0 y1 y2 y3 y4
      unfold spec_l30Net.l0
      repeat' first | (with_reducible first | exact ih0 _ _ _ _ _ | exact spec_l30Rd_one.mono _ _ _ _ | exact spec_l30Rd_pick.mono _ _ _ _ | exact LeO.refl _ | exact LeO.none _ | refine LeO.ite ?_ ?_ | refine LeO.bind ?_ (fun _ => ?_)) | exact ih0 _ _ _ _ _ | exact spec_l30Rd_one.mono _ _ _ _ | exact spec_l30Rd_pick.mono _ _ _ _ | exact LeO.none _ | refine LeO.ite ?_ ?_ | refine LeO.bind ?_ (fun _ => ?_)
theorem spec_l30Net.mono : ∀ a0 a1 k, LeO (spec_l30Net.f k a0 a1) (spec_l30Net.f (k + 1) a0 a1) := by
  intro a0 a1 k
  have ih0 := spec_l30Net.mono_l k
  unfold spec_l30Net.f
  repeat' first | (with_reducible first | exact ih0 _ _ _ _ _ | exact spec_l30Rd_one.mono _ _ _ _ | exact spec_l30Rd_pick.mono _ _ _ _ | exact LeO.refl _ | exact LeO.none _ | refine LeO.ite ?_ ?_ | refine LeO.bind ?_ (fun _ => ?_)) | exact ih0 _ _ _ _ _ | exact spec_l30Rd_one.mono _ _ _ _ | exact spec_l30Rd_pick.mono _ _ _ _ | exact LeO.none _ | refine LeO.ite ?_ ?_ | refine LeO.bind ?_ (fun _ => ?_)
def spec_l30Net.T5 : Bool × List (List Nat × List Nat) := (true, [([], []), ([], []), ([1], [1]), ([0, 2], [0, 2]), ([], []), ([], []), ([5], [5]), ([4, 6, 3], [4, 6]), ([], []), ([], []), ([9, 7], [9]), ([10], [10]), ([8, 11, 10], [8, 11]), ([], []), ([], []), ([13, 14, 12], [13, 14]), ([], []), ([16, 15], [16]), ([3, 7, 12, 15, 17], [3, 7, 12, 15, 17]), ([], []), ([19, 18, 17, 0, 1, 2, 3, 4, 5, 6, 7, 8, 9, 10, 11, 12, 13, 14, 15, 16, 17, 18, 19], [18, 19])])
def spec_l30Net.B5 : List Nat := [0, 0, 2, 7, 0, 0, 32, 127, 0, 0, 767, 1791, 4095, 0, 0, 32767, 0, 131071, 262143, 0, 1048575]
theorem spec_l30Net.tab5 : rtab .any (opsOf Try.f16 5) = spec_l30Net.T5 := by kernel_rfl
theorem spec_l30Net.bits5 : waitsOk spec_l30Net.T5.2 spec_l30Net.B5 = true := by kernel_rfl
set_option maxHeartbeats 200000000 in
set_option maxRecDepth 100000 in
theorem spec_l30Net.calls (k : Nat) (g : Nat) (s0_0 : List Int) (s0_1 : Int) (r1 : Int) (r2 : List (S33)) (r3 : Int) (w0 w : World) (hI : IsS44 w0 w g s0_0 s0_1) (hB : Below w0.heap.size w0 w) (h : spec_l30Net.f k s0_0 s0_1 = some (r1, r2, r3)) :
    Calls Try.prog 16 #[.pointer (some ⟨g, 0, none⟩)] w fun e w' => ∃ v1_ : Value, e = .returned (.agg #[.int .i64 r1, v1_]) ∧ Kd.R k33 33 w' w.heap.size (fun _ => True) v1_ r2 ∧ IsS44 w0 w' g s0_0 r3 ∧ Below w0.heap.size w0 w' ∧ KeepBut w w' g none := by
  have hu25 := Try.underlying25
  have hu33 := Try.underlying33
  have HI0 := Aside0.mk hI
  have HK := Aside0.mk (KeepBut.refl w g none)
  have HL := Aside0.mk hB.size
  clear hI
  have HW0 := Aside0.mk hB.size
  have HB := Aside0.mk hB
  clear hB
  have H : ((spec_l30Rd_pick.f k s0_0 s0_1 5).bind fun bt111 => ((spec_l30Rd_pick.f k s0_0 bt111.2 14).bind fun bt114 => (spec_l30Net.l0 k bt114.1 s0_0 bt114.2 (wrap64 (2 + bt111.1)) ([] : List (S33))))) = some (r1, r2, r3) := h
  clear h
  replace H := Option.bind_eq_some_iff.mp H
  obtain ⟨⟨t111, t112⟩, A20, H⟩ := H
  try dsimp only at H
  have A2 := Aside0.mk A20
  clear A20
  replace H := Option.bind_eq_some_iff.mp H
  obtain ⟨⟨t114, t115⟩, A30, H⟩ := H
  replace H : (spec_l30Net.l0 k t114 s0_0 t115 (wrap64 (2 + t111)) ([] : List (S33))) = some (r1, r2, r3) := H
  have A3 := Aside0.mk A30
  clear A30
  have H' := Aside0.mk H
  clear H
  go_enter Try.func16, Try.ntmps16
  go_wp2_with (first | ((with_reducible refine gate_dst (N := 2) rfl ?_); refine bx_ 2 #[.int .i64 0, .slice none 0 0] 25 ?_; intro gb110 hg w4 hbox hb; have BK110 := Aside0.mk (hbox); have GW110 := Aside0.mk (zk_ hg (nk_ HK.out)); have GE110 := Aside0.mk ((Nat.le_trans HW0.out (by rw [hg]; exact (keep_size (w := w) (g := g) (row := none) (nk_ HK.out)) : w.heap.size ≤ gb110) : w0.heap.size ≤ gb110)); have NB0_110 := Aside0.mk ((by rw [hg]; exact Nat.ne_of_lt (IsS44.lt (show IsS44 w0 _ g s0_0 s0_1 from ni44_16 HI0.out)) : g ≠ gb110)); have NB110_0 := Aside0.mk ((by rw [hg]; exact Nat.ne_of_gt (IsS44.lt (show IsS44 w0 _ g s0_0 s0_1 from ni44_16 HI0.out)) : gb110 ≠ g)); replace HI0 := Aside0.mk (IsS44.below (ni44_16 HI0.out) hb); replace HK := Aside0.mk (KeepBut.trans (nk_ HK.out) (KeepBut.of_below hb g none) (.inl rfl)); replace HB := Aside0.mk (below_step (ng44_16 HB.out) hb); clear hb hbox hg) | ((with_reducible refine gate_callee (f := 17) rfl ?_); refine gl_ (some 7) Try.func17 #[.pointer (some ⟨g, 0, none⟩), .int .i64 5] ?_; (with_reducible refine (spec_l30Rd_pick.calls k g s0_0 s0_1 5 t111 t112 w0 _ ?side1 ?side2 A2.out).mono ?_); (case side1 => repeat (first | (with_reducible first | exact HI0.out | apply IsS44.alloc | apply IsS44.drewN | apply IsS44.drew | apply IsS44.set_1 | refine IsS44.far ?_ NB0_110.out _) | exact HI0.out)); (case side2 => exact (ng44_16 HB.out)); rintro e w5 ⟨rfl, hi, hb, hk⟩; refine ⟨_, rfl, ?_⟩; replace BK110 := kk_ BK110 hk NB110_0; replace HK := Aside0.mk (KeepBut.trans (nk_ HK.out) hk (.inl rfl)); replace HB := Aside0.mk (hb); replace HI0 := Aside0.mk (hi); (try clear hb); (try clear hb2); (try clear hk); (try clear hi)) | ((with_reducible refine gate_dst (N := 3) rfl ?_); refine bx_ 3 #[.int .i64 0, .slice none 0 0] 25 ?_; intro gb113 hg w6 hbox hb; have BK113 := Aside0.mk (hbox); have GW113 := Aside0.mk (zk_ hg (nk_ HK.out)); have GE113 := Aside0.mk ((Nat.le_trans HW0.out (by rw [hg]; exact (keep_size (w := w) (g := g) (row := none) (nk_ HK.out)) : w.heap.size ≤ gb113) : w0.heap.size ≤ gb113)); have NB110_113 := Aside0.mk (nl_ BK110.out hg); have NB113_110 := Aside0.mk (nm_ BK110.out hg); have NB0_113 := Aside0.mk ((by rw [hg]; exact Nat.ne_of_lt (IsS44.lt (show IsS44 w0 _ g s0_0 t112 from ni44_16 HI0.out)) : g ≠ gb113)); have NB113_0 := Aside0.mk ((by rw [hg]; exact Nat.ne_of_gt (IsS44.lt (show IsS44 w0 _ g s0_0 t112 from ni44_16 HI0.out)) : gb113 ≠ g)); replace HI0 := Aside0.mk (IsS44.below (ni44_16 HI0.out) hb); replace BK110 := kb_ BK110 hb; replace HK := Aside0.mk (KeepBut.trans (nk_ HK.out) (KeepBut.of_below hb g none) (.inl rfl)); replace HB := Aside0.mk (below_step (ng44_16 HB.out) hb); clear hb hbox hg; have hnb7 := NB113_110.out; have hnc7 := NB110_113.out; have hnb8 := NB113_0.out; have hnc8 := NB0_113.out; obtain ⟨hcz9_0, hcz9_1, hfz9_0, hfz9_1⟩ := cz2_ BK113.out) | ((with_reducible refine gate_callee (f := 17) rfl ?_); refine gl_ (some 11) Try.func17 #[.pointer (some ⟨g, 0, none⟩), .int .i64 14] ?_; (with_reducible refine (spec_l30Rd_pick.calls k g s0_0 t112 14 t114 t115 w0 _ ?side1 ?side2 A3.out).mono ?_); (case side1 => repeat (first | (with_reducible first | exact HI0.out | apply IsS44.alloc | apply IsS44.drewN | apply IsS44.drew | apply IsS44.set_1 | refine IsS44.far ?_ NB0_110.out _ | refine IsS44.far ?_ NB0_113.out _) | exact HI0.out)); (case side2 => exact (ng44_16 HB.out)); rintro e w10 ⟨rfl, hi, hb, hk⟩; refine ⟨_, rfl, ?_⟩; replace BK110 := Aside0.mk (KeepBut.blk hk (g' := gb110) (o := .cells #[.int .i64 0, .slice none 0 0] 25 (0, 0)) (nbf_ BK110.out) NB110_0.out (by simp)); replace BK113 := Aside0.mk (KeepBut.blk hk (g' := gb113) (o := .cells #[.int .i64 (wrap64 (2 + t111)), .slice none 0 0] 25 (0, 0)) (np_ BK113.out) NB113_0.out (by simp)); replace HK := Aside0.mk (KeepBut.trans (nk_ HK.out) hk (.inl rfl)); replace HB := Aside0.mk (hb); replace HI0 := Aside0.mk (hi); (try clear hb); (try clear hb2); (try clear hk); (try clear hi)))
  go_loopg [4] k (fun kq v4 w' => ∃ (x4_1 : Int) (x1001_1 : Int) (x114001_1 : List (S33)) (u114001 : Value), v4 = .int .i64 x4_1 ∧ Aside0 (spec_l30Net.l0 kq x4_1 s0_0 x1001_1 (wrap64 (2 + t111)) x114001_1 = some (r1, r2, r3)) ∧ Aside0 (kq ≤ k) ∧ Aside0 (Kd.R k33 33 w' w.heap.size (fun _ => True) u114001 x114001_1) ∧ Aside0 (w'.heap[gb110]? = some (.cells #[.int .i64 0, (.slice none 0 0)] 25 (0, 0))) ∧ Aside0 (w'.heap[gb113]? = some (.cells #[.int .i64 (wrap64 (2 + t111)), u114001] 25 (0, 0))) ∧ Aside0 (IsS44 w0 w' g s0_0 x1001_1) ∧ Aside0 (KeepBut w w' g none) ∧ Aside0 (Below w0.heap.size w0 w'))
  case atStart => exact ⟨(t114), (t115), (([] : List (S33))), (.slice none 0 0), ns_, H', ⟨Nat.le_refl _⟩, ⟨by first | exact Kd.R_nil _ _ _ _ _ | exact Kd.N_nil _ _ _ _ _ | exact Kd.V_nil _ _ _ _ _ | exact Kd.Q_nil _ _ _ _ _ | exact Kd.S_nil _ _ _ _ _⟩, ⟨nb_ BK110.out⟩, ⟨nb_ BK113.out⟩, ⟨ni44_16 HI0.out⟩, ⟨nk_ HK.out⟩, ⟨by repeat (first | (with_reducible first | exact HB.out | apply below_alloc | apply pw_below_drewN | apply below_drew1 | refine below_set ?_ (IsS44.ge HI0.out) | refine below_set ?_ GE110.out | refine below_set ?_ GE113.out) | exact HB.out)⟩⟩
  case round =>
   clear H'
   try clear hcz9_0
   try clear hcz9_1
   try clear hfz9_0
   try clear hfz9_1
   obtain ⟨x4_1, x1001_1, x114001_1, u114001, rfl, HA, HK1, HO_114001, BK110, BK113, HI0, HK, HB⟩ := hrel
   cases gk with
   | zero => exact absurd HA.out (by simp [spec_l30Net.l0])
   | succ k1 =>
    have H := HA.out
    clear HA
    simp only [spec_l30Net.l0] at H
    by_cases c11 : x4_1 > 0
    rotate_left
    ·rw [if_neg c11] at H
     have c11b0 : decide (0 < x4_1) = false := decide_eq_false c11
     clear c11
     simp only [Option.some.injEq, Prod.mk.injEq] at H
     obtain ⟨rfl, rfl, rfl⟩ := H
     have hnb82 := NB113_110.out
     have hnc82 := NB110_113.out
     have hnb83 := NB113_0.out
     have hnc83 := NB0_113.out
     obtain ⟨hcz84_0, hcz84_1, hfz84_0, hfz84_1⟩ := cz2_ BK113.out
     have hnb85 := NB110_0.out
     have hnc85 := NB0_110.out
     obtain ⟨hcz86_0, hcz86_1, hfz86_0, hfz86_1⟩ := cz2_ BK110.out
     obtain ⟨Ao87, co87, eo87⟩ := Kd.R_slice HO_114001.out
     subst eo87
     go_wp2
     refine bodyPost_ret (results_cell_row rfl _ _ gb110 25 #[.int .i64 (wrap64 (2 + t111)), .slice Ao87 x114001_1.length co87] (0, 0) _ rfl (np_ BK110.out) Try.underlying25 rfl (by kernel_rfl)) rfl ?_
     exact ⟨_, nw_, by (with_reducible repeat (first | apply rA16 | apply rN16 | apply Kd.R_drew)); exact Kd.R_mono (rf2_ (Kd.R_types HO_114001.out BK110.out (by decide))) (fun _ hk => trivial), ni44_16 HI0.out, by repeat (first | (with_reducible first | exact HB.out | apply below_alloc | apply pw_below_drewN | apply below_drew1 | refine below_set ?_ (IsS44.ge HI0.out) | refine below_set ?_ GE110.out | refine below_set ?_ GE113.out) | exact HB.out), nk_ HK.out⟩

    rw [if_pos c11] at H
    have c11b0 : decide (0 < x4_1) = true := decide_eq_true c11
    clear c11
    replace H := Option.bind_eq_some_iff.mp H
    obtain ⟨⟨t116, t117⟩, A120, H⟩ := H
    try dsimp only at H
    have A12 := Aside0.mk A120
    clear A120
    replace H := Option.bind_eq_some_iff.mp H
    obtain ⟨⟨t118, t119⟩, A130, H⟩ := H
    try dsimp only at H
    have A13 := Aside0.mk A130
    clear A130
    replace H := Option.bind_eq_some_iff.mp H
    obtain ⟨⟨t120, t121⟩, A140, H⟩ := H
    try dsimp only at H
    have A14 := Aside0.mk A140
    clear A140
    obtain ⟨y122, hy122⟩ : ∃ y_ : List Int, y_ = (([0, 1, 2, 5, 9, t120] : List Int)) := ⟨_, rfl⟩
    replace H : ((spec_l30Rd_one.f k1 s0_0 t121 y122).bind fun bt125 => ((spec_l30Rd_one.f k1 s0_0 bt125.2 (([0, 0, 3, 8] : List Int))).bind fun bt130 => ((spec_l30Rd_pick.f k1 s0_0 bt130.2 10).bind fun bt132 => (if t116 = t118 then (if (wrap64 (2 + t111)) = 0 then (none) else (if x114001_1.length < 3518437208883 then (spec_l30Net.l0 k1 (wrap64 (x4_1 - 1)) s0_0 bt132.2 (wrap64 (2 + t111)) (x114001_1 ++ [(⟨t116, Int.tmod (wrap64 (t118 + 1)) (wrap64 (2 + t111)), bt125.1, bt130.1, bt132.1⟩ : S33)])) else (none))) else (if x114001_1.length < 3518437208883 then (spec_l30Net.l0 k1 (wrap64 (x4_1 - 1)) s0_0 bt132.2 (wrap64 (2 + t111)) (x114001_1 ++ [(⟨t116, t118, bt125.1, bt130.1, bt132.1⟩ : S33)])) else (none)))))) = some (r1, r2, r3) := by first | (rw [hy122]; with_reducible exact H) | (have H2_ := (Option.bind_some _ _).symm.trans H; rw [hy122]; with_reducible exact H2_) | (have H2_ := (Option.bind_some _ _).symm.trans H; with_reducible exact H2_) | with_reducible exact H | (rw [hy122]; exact H) | exact H
    have Ny122 := Aside0.mk hy122
    clear hy122
    replace H := Option.bind_eq_some_iff.mp H
    obtain ⟨⟨t125, t126⟩, A150, H⟩ := H
    try dsimp only at H
    have A15 := Aside0.mk A150
    clear A150
    obtain ⟨y127, hy127⟩ : ∃ y_ : List Int, y_ = (([0, 0, 3, 8] : List Int)) := ⟨_, rfl⟩
    replace H : ((spec_l30Rd_one.f k1 s0_0 t126 y127).bind fun bt130 => ((spec_l30Rd_pick.f k1 s0_0 bt130.2 10).bind fun bt132 => (if t116 = t118 then (if (wrap64 (2 + t111)) = 0 then (none) else (if x114001_1.length < 3518437208883 then (spec_l30Net.l0 k1 (wrap64 (x4_1 - 1)) s0_0 bt132.2 (wrap64 (2 + t111)) (x114001_1 ++ [(⟨t116, Int.tmod (wrap64 (t118 + 1)) (wrap64 (2 + t111)), t125, bt130.1, bt132.1⟩ : S33)])) else (none))) else (if x114001_1.length < 3518437208883 then (spec_l30Net.l0 k1 (wrap64 (x4_1 - 1)) s0_0 bt132.2 (wrap64 (2 + t111)) (x114001_1 ++ [(⟨t116, t118, t125, bt130.1, bt132.1⟩ : S33)])) else (none))))) = some (r1, r2, r3) := by first | (rw [hy127]; with_reducible exact H) | (have H2_ := (Option.bind_some _ _).symm.trans H; rw [hy127]; with_reducible exact H2_) | (have H2_ := (Option.bind_some _ _).symm.trans H; with_reducible exact H2_) | with_reducible exact H | (rw [hy127]; exact H) | exact H
    have Ny127 := Aside0.mk hy127
    clear hy127
    replace H := Option.bind_eq_some_iff.mp H
    obtain ⟨⟨t130, t131⟩, A160, H⟩ := H
    try dsimp only at H
    have A16 := Aside0.mk A160
    clear A160
    replace H := Option.bind_eq_some_iff.mp H
    obtain ⟨⟨t132, t133⟩, A170, H⟩ := H
    try dsimp only at H
    have A17 := Aside0.mk A170
    clear A170
    have H' := Aside0.mk H
    clear H
    try go_wp2
    replace HO_114001 := Aside0.mk (Kd.R_drew HO_114001.out)
    replace BK110 := Aside0.mk (blk_drew BK110.out)
    replace BK113 := Aside0.mk (blk_drew BK113.out)
    replace HI0 := Aside0.mk (IsS44.drew HI0.out)
    replace HK := Aside0.mk (keep_drew HK.out)
    replace HB := Aside0.mk (below_drew1 HB.out)
    refine start_ (n := 21) (S := fun w' => w'.cell? ⟨gb113, 0, none⟩ = some (.int .i64 (wrap64 (2 + t111))) ∧ w'.cell? ⟨gb113, 1, none⟩ = some (u114001)) (ds := []) (bm_ 21 0) (by kernel_rfl) rfl rfl ⟨ct_ BK113.out 0, ct_ BK113.out 1⟩ (fun hHeld => ?_); refine with_tabW spec_l30Net.tab5 spec_l30Net.bits5 (fun HT_ HW_ => ?_)
    generalize wr.drew = w21 at HO_114001 BK110 BK113 HI0 HK HB hHeld ⊢
    refine pu_ 0 16 (bm_ 21 1) HT_.out ?_
    refine pu_ 1 17 (bm_ 21 3) HT_.out ?_
    refine pu_ 4 20 (bm_ 21 19) HT_.out ?_
    refine pu_ 5 21 (bm_ 21 51) HT_.out ?_
    refine pu_ 8 24 (bm_ 21 307) HT_.out ?_
    refine pu_ 9 25 (bm_ 21 819) HT_.out ?_
    refine pu_ 13 29 (bm_ 21 9011) HT_.out ?_
    refine pu_ 16 32 (bm_ 21 74547) HT_.out ?_
    refine tk_ 2 18 (bm_ 21 74551) HT_.out HW_.out hHeld ?_
    refine tk_ 6 22 (bm_ 21 74615) HT_.out HW_.out hHeld ?_
    refine join_ (σ := Value × Value × Nat) 1 z16_0 (fun s_ => [(19, .int .i64 t116), (23, .int .i64 t118), (26, .int .i64 t120), (27, s_.1), (28, .int .i64 t125), (30, s_.2.1), (31, .int .i64 t130), (33, .int .i64 t132), (5, .pointer (some ⟨s_.2.2, 0, none⟩)), (34, .agg #[.int .i64 t116, .int .i64 t118, .int .i64 t125, .int .i64 t130, .int .i64 t132])]) (fun s_ w' => (w'.cell? ⟨gb113, 0, none⟩ = some (.int .i64 (wrap64 (2 + t111))) ∧ w'.cell? ⟨gb113, 1, none⟩ = some (u114001)) ∧ (Kd.R (Kd.int .i64) 3 w' w.heap.size (fun k_ => some k_ ≠ (s_.2.1 : Value).ownBlock) s_.1 y122) ∧ (Kd.R (Kd.int .i64) 3 w' w.heap.size (fun k_ => some k_ ≠ (s_.1 : Value).ownBlock) s_.2.1 y127) ∧ (Kd.R k33 33 w' w.heap.size (fun k_ => k_ ≠ s_.2.2) u114001 x114001_1) ∧ (w'.heap[gb110]? = some (.cells #[.int .i64 0, .slice none 0 0] 25 (0, 0))) ∧ (w'.heap[gb113]? = some (.cells #[.int .i64 (wrap64 (2 + t111)), u114001] 25 (0, 0))) ∧ (w'.heap[s_.2.2]? = some (.cells #[.int .i64 0, .int .i64 0, .int .i64 0, .int .i64 0, .int .i64 0] 33 (0, 0))) ∧ (w.heap.size ≤ s_.2.2) ∧ (w0.heap.size ≤ s_.2.2) ∧ (g ≠ s_.2.2) ∧ (s_.2.2 ≠ g) ∧ (gb110 ≠ s_.2.2) ∧ (s_.2.2 ≠ gb110) ∧ (gb113 ≠ s_.2.2) ∧ (s_.2.2 ≠ gb113) ∧ (IsS44 w0 w' g s0_0 t133) ∧ (KeepBut w w' g none) ∧ (Below w0.heap.size w0 w')) ?_ ?_
    ·skip
     rintro ⟨v123, v128, gb134⟩ w35 ⟨hS_, h0_, h1_, h2_, h3_, h4_, h5_, h6_, h7_, h8_, h9_, h10_, h11_, h12_, h13_, h14_, h15_, h16_⟩
     have HO124 : Aside0 (Kd.R (Kd.int .i64) 3 w35 w.heap.size (fun k_ => some k_ ≠ (v128 : Value).ownBlock) v123 y122) := ⟨h0_⟩
     have HO129 : Aside0 (Kd.R (Kd.int .i64) 3 w35 w.heap.size (fun k_ => some k_ ≠ (v123 : Value).ownBlock) v128 y127) := ⟨h1_⟩
     replace HO_114001 : Aside0 (Kd.R k33 33 w35 w.heap.size (fun k_ => k_ ≠ gb134) u114001 x114001_1) := ⟨h2_⟩
     replace BK110 : Aside0 (w35.heap[gb110]? = some (.cells #[.int .i64 0, .slice none 0 0] 25 (0, 0))) := ⟨h3_⟩
     replace BK113 : Aside0 (w35.heap[gb113]? = some (.cells #[.int .i64 (wrap64 (2 + t111)), u114001] 25 (0, 0))) := ⟨h4_⟩
     have BK134 : Aside0 (w35.heap[gb134]? = some (.cells #[.int .i64 0, .int .i64 0, .int .i64 0, .int .i64 0, .int .i64 0] 33 (0, 0))) := ⟨h5_⟩
     have GW134 : Aside0 (w.heap.size ≤ gb134) := ⟨h6_⟩
     have GE134 : Aside0 (w0.heap.size ≤ gb134) := ⟨h7_⟩
     have NB0_134 : Aside0 (g ≠ gb134) := ⟨h8_⟩
     have NB134_0 : Aside0 (gb134 ≠ g) := ⟨h9_⟩
     have NB110_134 : Aside0 (gb110 ≠ gb134) := ⟨h10_⟩
     have NB134_110 : Aside0 (gb134 ≠ gb110) := ⟨h11_⟩
     have NB113_134 : Aside0 (gb113 ≠ gb134) := ⟨h12_⟩
     have NB134_113 : Aside0 (gb134 ≠ gb113) := ⟨h13_⟩
     replace HI0 : Aside0 (IsS44 w0 w35 g s0_0 t133) := ⟨h14_⟩
     replace HK : Aside0 (KeepBut w w35 g none) := ⟨h15_⟩
     replace HB : Aside0 (Below w0.heap.size w0 w35) := ⟨h16_⟩
     clear h0_ h1_ h2_ h3_ h4_ h5_ h6_ h7_ h8_ h9_ h10_ h11_ h12_ h13_ h14_ h15_ h16_
     have hHeld : w35.cell? ⟨gb113, 0, none⟩ = some (.int .i64 (wrap64 (2 + t111))) ∧ w35.cell? ⟨gb113, 1, none⟩ = some (u114001) := hS_
     refine nm2_ ?_
     refine one_ (i := 20) (N := none) (bm_ 21 2097151) rfl rfl (one_of HT_.out (by kernel_rfl)) (by decide) (fun K hK => ?_)
     have hs36 : w35.cell? ⟨gb134, 0, none⟩ = some (.int .i64 0) := ct_ BK134.out 0
     have hfs36 := blk_frozen BK134.out 0
     have hns36_0 := NB110_134.out
     have hns36_1 := NB113_134.out
     have hms36_0 := NB134_110.out
     have hms36_1 := NB134_113.out
     have hs37 : w35.cell? ⟨gb134, 1, none⟩ = some (.int .i64 0) := ct_ BK134.out 1
     have hfs37 := blk_frozen BK134.out 1
     have hns37_0 := NB110_134.out
     have hns37_1 := NB113_134.out
     have hms37_0 := NB134_110.out
     have hms37_1 := NB134_113.out
     have hs38 : w35.cell? ⟨gb134, 2, none⟩ = some (.int .i64 0) := ct_ BK134.out 2
     have hfs38 := blk_frozen BK134.out 2
     have hns38_0 := NB110_134.out
     have hns38_1 := NB113_134.out
     have hms38_0 := NB134_110.out
     have hms38_1 := NB134_113.out
     have hs39 : w35.cell? ⟨gb134, 3, none⟩ = some (.int .i64 0) := ct_ BK134.out 3
     have hfs39 := blk_frozen BK134.out 3
     have hns39_0 := NB110_134.out
     have hns39_1 := NB113_134.out
     have hms39_0 := NB134_110.out
     have hms39_1 := NB134_113.out
     have hs40 : w35.cell? ⟨gb134, 4, none⟩ = some (.int .i64 0) := ct_ BK134.out 4
     have hfs40 := blk_frozen BK134.out 4
     have hns40_0 := NB110_134.out
     have hns40_1 := NB113_134.out
     have hms40_0 := NB134_110.out
     have hms40_1 := NB134_113.out
     refine skip_ (w1 := ?_) (by rfl) rfl ?_ ?_
     rotate_left
     ·go_simp
      rfl
     refine hK.out _ _ ⟨((cell_far (p := ⟨gb134, _, none⟩) NB113_134.out _).trans (((cell_far (p := ⟨gb134, _, none⟩) NB113_134.out _).trans (((cell_far (p := ⟨gb134, _, none⟩) NB113_134.out _).trans (((cell_far (p := ⟨gb134, _, none⟩) NB113_134.out _).trans (((cell_far (p := ⟨gb134, _, none⟩) NB113_134.out _).trans (hHeld.1)))))))))), ((cell_far (p := ⟨gb134, _, none⟩) NB113_134.out _).trans (((cell_far (p := ⟨gb134, _, none⟩) NB113_134.out _).trans (((cell_far (p := ⟨gb134, _, none⟩) NB113_134.out _).trans (((cell_far (p := ⟨gb134, _, none⟩) NB113_134.out _).trans (((cell_far (p := ⟨gb134, _, none⟩) NB113_134.out _).trans (hHeld.2))))))))))⟩ (fun hHeld => ?_)
     clear hK K
     refine done_ (done_of HT_.out (by kernel_rfl)) ?_
     have H := H'.out
     clear H'
     by_cases c18 : t116 = t118
     rotate_left
     ·rw [if_neg c18] at H
      have c18b0 : (t116 == t118) = false := beq_eq_false_iff_ne.mpr c18
      have c18b1 : (t116 != t118) = true := bne_iff_ne.mpr c18
      by_cases c51 : x114001_1.length < 3518437208883
      rotate_left
      ·rw [if_neg c51] at H
       exact absurd H (by simp)
      rw [if_pos c51] at H
      have LMc51 := Aside0.mk c51
      clear c51
      obtain ⟨y138, hy138⟩ : ∃ y_ : List (S33), y_ = (x114001_1 ++ [(⟨t116, t118, t125, t130, t132⟩ : S33)]) := ⟨_, rfl⟩
      replace H : (spec_l30Net.l0 k1 (wrap64 (x4_1 - 1)) s0_0 t133 (wrap64 (2 + t111)) y138) = some (r1, r2, r3) := by first | (rw [hy138]; with_reducible exact H) | (have H2_ := (Option.bind_some _ _).symm.trans H; rw [hy138]; with_reducible exact H2_) | (have H2_ := (Option.bind_some _ _).symm.trans H; with_reducible exact H2_) | with_reducible exact H | (rw [hy138]; exact H) | exact H
      have Ny138 := Aside0.mk hy138
      clear hy138
      have H' := Aside0.mk H
      clear H
      have hnb72 := NB134_110.out
      have hnc72 := NB110_134.out
      have hnb73 := NB134_113.out
      have hnc73 := NB113_134.out
      have hnb74 := NB134_0.out
      have hnc74 := NB0_134.out
      obtain ⟨hcz75_0, hcz75_1, hcz75_2, hcz75_3, hcz75_4, hfz75_0, hfz75_1, hfz75_2, hfz75_3, hfz75_4⟩ := cz5_ BK134.out
      have hnb76 := NB113_110.out
      have hnc76 := NB110_113.out
      have hnb77 := NB113_0.out
      have hnc77 := NB0_113.out
      obtain ⟨hcz78_0, hcz78_1, hfz78_0, hfz78_1⟩ := cz2_ BK113.out
      try go_wp2_with (first | ((with_reducible refine gate_builtin (b := .append) (xs := #[.tmp 48, .tmp 50]) rfl ?_); at_builtin; refine Kd.R_append k33 w.heap.size rfl (.tmp 48) (.tmp 50) 23 33 (.agg #[(.int .i64 0), (.int .i64 0), (.int .i64 0), (.int .i64 0), (.int .i64 0)]) 40 rfl Try.underlying23 info33 rfl (by decide) (by omega) u114001 x114001_1 (⟨t116, t118, t125, t130, t132⟩ : S33) [.int .i64 t116, .int .i64 t118, .int .i64 t125, .int .i64 t130, .int .i64 t132] (fun k_ => k_ ≠ gb134) (fun _ => False) rfl (by first | (go_simp; done) | (go_simp; rfl)) ?aP (fun _ hk => hk.elim) ?aF ?aO (Below.refl _ _) ?aS ?aL ?_; (case aP => exact k33_mkM _ _ _ (⟨t116, t118, t125, t130, t132⟩ : S33)); (case aF => exact (fun k_ hk => Kd.freshB (g := gb134) (o := .cells #[.int .i64 t116, .int .i64 t118, .int .i64 t125, .int .i64 t130, .int .i64 t132] 33 (0, 0)) (np_ BK134.out) k_ hk)); (case aO => exact (by (with_reducible repeat (first | apply rA16 | apply rN16 | apply Kd.R_drew)); exact Kd.R_mono (rf5_ (Kd.R_mono HO_114001.out (fun k_ hk => (⟨hk, hk⟩ : _ ∧ k_ ≠ gb134)))) (fun _ hk => hk.1))); (case aS => exact (keep_size (w := w) (g := g) (row := none) (nk_ HK.out))); (case aL => have := LMc51.out; omega); intro v139 w79 ho hb hg hat; rw [← Ny138.out] at ho; have HO140 := Aside0.mk (ho); replace BK110 := Aside0.mk (blk_grown (g := gb110) (o := .cells #[.int .i64 0, .slice none 0 0] 25 (0, 0)) (nbf_ BK110.out) hg (Kd.R_ne HO_114001.out BK110.out (by decide))); replace BK113 := Aside0.mk (blk_grown (g := gb113) (o := .cells #[.int .i64 (wrap64 (2 + t111)), u114001] 25 (0, 0)) (nbf_ BK113.out) hg (Kd.R_ne HO_114001.out BK113.out (by decide))); replace HI0 := Aside0.mk (IsS44.grown (show IsS44 w0 _ g s0_0 t133 from ni44_16 HI0.out) hg (IsS44.own_ne HI0.out HO_114001.out (by decide))); replace HO124 := Aside0.mk (Kd.R_over' (by (with_reducible repeat (first | apply rA16 | apply rN16 | apply Kd.R_drew)); exact (Kd.R_mono (rf5_ (Kd.R_types HO124.out BK134.out (by decide))) (fun _ h_ => h_.1))) (Kd.R_typed (by (with_reducible repeat (first | apply rA16 | apply rN16 | apply Kd.R_drew)); exact (Kd.R_mono (rf5_ (Kd.R_mono HO_114001.out (fun k_ hk => (⟨hk, hk⟩ : _ ∧ k_ ≠ gb134)))) (fun _ h_ => h_.1)))) (by decide) hg); replace HO129 := Aside0.mk (Kd.R_over' (by (with_reducible repeat (first | apply rA16 | apply rN16 | apply Kd.R_drew)); exact (Kd.R_mono (rf5_ (Kd.R_types HO129.out BK134.out (by decide))) (fun _ h_ => h_.1))) (Kd.R_typed (by (with_reducible repeat (first | apply rA16 | apply rN16 | apply Kd.R_drew)); exact (Kd.R_mono (rf5_ (Kd.R_mono HO_114001.out (fun k_ hk => (⟨hk, hk⟩ : _ ∧ k_ ≠ gb134)))) (fun _ h_ => h_.1)))) (by decide) hg); replace BK134 := Aside0.mk (blk_grown (g := gb134) (o := .cells #[.int .i64 t116, .int .i64 t118, .int .i64 t125, .int .i64 t130, .int .i64 t132] 33 (0, 0)) (np_ BK134.out) hg (Kd.R_away HO_114001.out (fun _ hk => hk))); replace HB := Aside0.mk (below_weaken (ng44_16 HB.out) HL.out hb); replace HK := Aside0.mk (KeepBut.trans (nk_ HK.out) (KeepBut.of_grown hg g) (Kd.R_base2 HO_114001.out)); clear HO_114001; clear ho hb hg hat; obtain ⟨Ao80, co80, eo80⟩ := Kd.R_slice HO140.out; subst eo80; obtain ⟨hcz81_0, hcz81_1, hfz81_0, hfz81_1⟩ := cz2_ BK113.out))
      go_roundg k1
      case measure => have := HK1.out; omega
      case rel => exact ⟨(wrap64 (x4_1 - 1)), (t133), (y138), (.slice Ao80 y138.length co80), ns_, H', ⟨by have := HK1.out; omega⟩, ⟨by (with_reducible repeat (first | apply rA16 | apply rN16 | apply Kd.R_drew)); exact Kd.R_mono (Kd.R_far (p := ⟨gb113, 1, none⟩) (Kd.R_types HO140.out BK113.out (by decide)) (fun _ hk => hk.2) (.slice Ao80 y138.length co80)) (fun _ hk => trivial)⟩, ⟨np_ BK110.out⟩, ⟨np_ BK113.out⟩, ⟨ni44_16 HI0.out⟩, ⟨nk_ HK.out⟩, ⟨by repeat (first | (with_reducible first | exact HB.out | apply below_alloc | apply pw_below_drewN | apply below_drew1 | refine below_set ?_ (IsS44.ge HI0.out) | refine below_set ?_ GE110.out | refine below_set ?_ GE113.out | refine below_set ?_ GE134.out) | exact HB.out)⟩⟩
     rw [if_pos c18] at H
     have c18b0 : (t116 == t118) = true := beq_iff_eq.mpr c18
     have c18b1 : (t116 != t118) = false := bne_eq_false_iff_eq.mpr c18
     clear c18
     by_cases c19 : (wrap64 (2 + t111)) = 0
     ·rw [if_pos c19] at H
      exact absurd H (by simp)
     rw [if_neg c19] at H
     have c19b0 : ((wrap64 (2 + t111)) == 0) = false := beq_eq_false_iff_ne.mpr c19
     have c19b1 : ((wrap64 (2 + t111)) != 0) = true := bne_iff_ne.mpr c19
     by_cases c20 : x114001_1.length < 3518437208883
     rotate_left
     ·rw [if_neg c20] at H
      exact absurd H (by simp)
     rw [if_pos c20] at H
     have LMc20 := Aside0.mk c20
     clear c20
     obtain ⟨y135, hy135⟩ : ∃ y_ : List (S33), y_ = (x114001_1 ++ [(⟨t116, Int.tmod (wrap64 (t118 + 1)) (wrap64 (2 + t111)), t125, t130, t132⟩ : S33)]) := ⟨_, rfl⟩
     replace H : (spec_l30Net.l0 k1 (wrap64 (x4_1 - 1)) s0_0 t133 (wrap64 (2 + t111)) y135) = some (r1, r2, r3) := by first | (rw [hy135]; with_reducible exact H) | (have H2_ := (Option.bind_some _ _).symm.trans H; rw [hy135]; with_reducible exact H2_) | (have H2_ := (Option.bind_some _ _).symm.trans H; with_reducible exact H2_) | with_reducible exact H | (rw [hy135]; exact H) | exact H
     have Ny135 := Aside0.mk hy135
     clear hy135
     have H' := Aside0.mk H
     clear H
     have hnb41 := NB134_110.out
     have hnc41 := NB110_134.out
     have hnb42 := NB134_113.out
     have hnc42 := NB113_134.out
     have hnb43 := NB134_0.out
     have hnc43 := NB0_134.out
     obtain ⟨hcz44_0, hcz44_1, hcz44_2, hcz44_3, hcz44_4, hfz44_0, hfz44_1, hfz44_2, hfz44_3, hfz44_4⟩ := cz5_ BK134.out
     have hnb45 := NB113_110.out
     have hnc45 := NB110_113.out
     have hnb46 := NB113_0.out
     have hnc46 := NB0_113.out
     obtain ⟨hcz47_0, hcz47_1, hfz47_0, hfz47_1⟩ := cz2_ BK113.out
     try go_wp2_with (first | ((with_reducible refine gate_builtin (b := .append) (xs := #[.tmp 48, .tmp 50]) rfl ?_); at_builtin; refine Kd.R_append k33 w.heap.size rfl (.tmp 48) (.tmp 50) 23 33 (.agg #[(.int .i64 0), (.int .i64 0), (.int .i64 0), (.int .i64 0), (.int .i64 0)]) 40 rfl Try.underlying23 info33 rfl (by decide) (by omega) u114001 x114001_1 (⟨t116, Int.tmod (wrap64 (t118 + 1)) (wrap64 (2 + t111)), t125, t130, t132⟩ : S33) [.int .i64 t116, .int .i64 (Int.tmod (wrap64 (t118 + 1)) (wrap64 (2 + t111))), .int .i64 t125, .int .i64 t130, .int .i64 t132] (fun k_ => k_ ≠ gb134) (fun _ => False) rfl (by first | (go_simp; done) | (go_simp; rfl)) ?aP (fun _ hk => hk.elim) ?aF ?aO (Below.refl _ _) ?aS ?aL ?_; (case aP => exact k33_mkM _ _ _ (⟨t116, Int.tmod (wrap64 (t118 + 1)) (wrap64 (2 + t111)), t125, t130, t132⟩ : S33)); (case aF => exact (fun k_ hk => Kd.freshB (g := gb134) (o := .cells #[.int .i64 t116, .int .i64 (Int.tmod (wrap64 (t118 + 1)) (wrap64 (2 + t111))), .int .i64 t125, .int .i64 t130, .int .i64 t132] 33 (0, 0)) (np_ BK134.out) k_ hk)); (case aO => exact (by (with_reducible repeat (first | apply rA16 | apply rN16 | apply Kd.R_drew)); exact Kd.R_mono (Kd.R_far (p := ⟨gb134, 1, none⟩) (rf5_ (Kd.R_mono HO_114001.out (fun k_ hk => (⟨hk, hk⟩ : _ ∧ k_ ≠ gb134)))) (fun _ hk => hk.2) (.int .i64 (Int.tmod (wrap64 (t118 + 1)) (wrap64 (2 + t111))))) (fun _ hk => hk.1))); (case aS => exact (keep_size (w := w) (g := g) (row := none) (nk_ HK.out))); (case aL => have := LMc20.out; omega); intro v136 w48 ho hb hg hat; rw [← Ny135.out] at ho; have HO137 := Aside0.mk (ho); replace BK110 := Aside0.mk (blk_grown (g := gb110) (o := .cells #[.int .i64 0, .slice none 0 0] 25 (0, 0)) (nbf_ BK110.out) hg (Kd.R_ne HO_114001.out BK110.out (by decide))); replace BK113 := Aside0.mk (blk_grown (g := gb113) (o := .cells #[.int .i64 (wrap64 (2 + t111)), u114001] 25 (0, 0)) (nbf_ BK113.out) hg (Kd.R_ne HO_114001.out BK113.out (by decide))); replace HI0 := Aside0.mk (IsS44.grown (show IsS44 w0 _ g s0_0 t133 from ni44_16 HI0.out) hg (IsS44.own_ne HI0.out HO_114001.out (by decide))); replace HO124 := Aside0.mk (Kd.R_over' (by (with_reducible repeat (first | apply rA16 | apply rN16 | apply Kd.R_drew)); exact (Kd.R_mono (Kd.R_far (p := ⟨gb134, 1, none⟩) (rf5_ (Kd.R_types HO124.out BK134.out (by decide))) (fun _ hk => hk.2) (.int .i64 (Int.tmod (wrap64 (t118 + 1)) (wrap64 (2 + t111))))) (fun _ h_ => h_.1))) (Kd.R_typed (by (with_reducible repeat (first | apply rA16 | apply rN16 | apply Kd.R_drew)); exact (Kd.R_mono (Kd.R_far (p := ⟨gb134, 1, none⟩) (rf5_ (Kd.R_mono HO_114001.out (fun k_ hk => (⟨hk, hk⟩ : _ ∧ k_ ≠ gb134)))) (fun _ hk => hk.2) (.int .i64 (Int.tmod (wrap64 (t118 + 1)) (wrap64 (2 + t111))))) (fun _ h_ => h_.1)))) (by decide) hg); replace HO129 := Aside0.mk (Kd.R_over' (by (with_reducible repeat (first | apply rA16 | apply rN16 | apply Kd.R_drew)); exact (Kd.R_mono (Kd.R_far (p := ⟨gb134, 1, none⟩) (rf5_ (Kd.R_types HO129.out BK134.out (by decide))) (fun _ hk => hk.2) (.int .i64 (Int.tmod (wrap64 (t118 + 1)) (wrap64 (2 + t111))))) (fun _ h_ => h_.1))) (Kd.R_typed (by (with_reducible repeat (first | apply rA16 | apply rN16 | apply Kd.R_drew)); exact (Kd.R_mono (Kd.R_far (p := ⟨gb134, 1, none⟩) (rf5_ (Kd.R_mono HO_114001.out (fun k_ hk => (⟨hk, hk⟩ : _ ∧ k_ ≠ gb134)))) (fun _ hk => hk.2) (.int .i64 (Int.tmod (wrap64 (t118 + 1)) (wrap64 (2 + t111))))) (fun _ h_ => h_.1)))) (by decide) hg); replace BK134 := Aside0.mk (blk_grown (g := gb134) (o := .cells #[.int .i64 t116, .int .i64 (Int.tmod (wrap64 (t118 + 1)) (wrap64 (2 + t111))), .int .i64 t125, .int .i64 t130, .int .i64 t132] 33 (0, 0)) (np_ BK134.out) hg (Kd.R_away HO_114001.out (fun _ hk => hk))); replace HB := Aside0.mk (below_weaken (ng44_16 HB.out) HL.out hb); replace HK := Aside0.mk (KeepBut.trans (nk_ HK.out) (KeepBut.of_grown hg g) (Kd.R_base2 HO_114001.out)); clear HO_114001; clear ho hb hg hat; obtain ⟨Ao49, co49, eo49⟩ := Kd.R_slice HO137.out; subst eo49; obtain ⟨hcz50_0, hcz50_1, hfz50_0, hfz50_1⟩ := cz2_ BK113.out))
     go_roundg k1
     case measure => have := HK1.out; omega
     case rel => exact ⟨(wrap64 (x4_1 - 1)), (t133), (y135), (.slice Ao49 y135.length co49), ns_, H', ⟨by have := HK1.out; omega⟩, ⟨by (with_reducible repeat (first | apply rA16 | apply rN16 | apply Kd.R_drew)); exact Kd.R_mono (Kd.R_far (p := ⟨gb113, 1, none⟩) (Kd.R_types HO137.out BK113.out (by decide)) (fun _ hk => hk.2) (.slice Ao49 y135.length co49)) (fun _ hk => trivial)⟩, ⟨np_ BK110.out⟩, ⟨np_ BK113.out⟩, ⟨ni44_16 HI0.out⟩, ⟨nk_ HK.out⟩, ⟨by repeat (first | (with_reducible first | exact HB.out | apply below_alloc | apply pw_below_drewN | apply below_drew1 | refine below_set ?_ (IsS44.ge HI0.out) | refine below_set ?_ GE110.out | refine below_set ?_ GE113.out | refine below_set ?_ GE134.out) | exact HB.out)⟩⟩
    intro hJ3_7_10_11_12_14_15_17_19
    refine join_ (σ := Value × Value) 2 z16_1 (fun s_ => [(19, .int .i64 t116), (23, .int .i64 t118), (26, .int .i64 t120), (27, s_.1), (28, .int .i64 t125), (30, s_.2), (31, .int .i64 t130), (33, .int .i64 t132), (34, .agg #[.int .i64 t116, .int .i64 t118, .int .i64 t125, .int .i64 t130, .int .i64 t132])]) (fun s_ w' => (w'.cell? ⟨gb113, 0, none⟩ = some (.int .i64 (wrap64 (2 + t111))) ∧ w'.cell? ⟨gb113, 1, none⟩ = some (u114001)) ∧ (Kd.R (Kd.int .i64) 3 w' w.heap.size (fun k_ => some k_ ≠ (s_.2 : Value).ownBlock) s_.1 y122) ∧ (Kd.R (Kd.int .i64) 3 w' w.heap.size (fun k_ => some k_ ≠ (s_.1 : Value).ownBlock) s_.2 y127) ∧ (Kd.R k33 33 w' w.heap.size (fun _ => True) u114001 x114001_1) ∧ (w'.heap[gb110]? = some (.cells #[.int .i64 0, .slice none 0 0] 25 (0, 0))) ∧ (w'.heap[gb113]? = some (.cells #[.int .i64 (wrap64 (2 + t111)), u114001] 25 (0, 0))) ∧ (IsS44 w0 w' g s0_0 t133) ∧ (KeepBut w w' g none) ∧ (Below w0.heap.size w0 w')) ?_ ?_
    ·skip
     rintro ⟨v123, v128⟩ w34 ⟨hS_, h0_, h1_, h2_, h3_, h4_, h5_, h6_, h7_⟩
     have HO124 : Aside0 (Kd.R (Kd.int .i64) 3 w34 w.heap.size (fun k_ => some k_ ≠ (v128 : Value).ownBlock) v123 y122) := ⟨h0_⟩
     have HO129 : Aside0 (Kd.R (Kd.int .i64) 3 w34 w.heap.size (fun k_ => some k_ ≠ (v123 : Value).ownBlock) v128 y127) := ⟨h1_⟩
     replace HO_114001 : Aside0 (Kd.R k33 33 w34 w.heap.size (fun _ => True) u114001 x114001_1) := ⟨h2_⟩
     replace BK110 : Aside0 (w34.heap[gb110]? = some (.cells #[.int .i64 0, .slice none 0 0] 25 (0, 0))) := ⟨h3_⟩
     replace BK113 : Aside0 (w34.heap[gb113]? = some (.cells #[.int .i64 (wrap64 (2 + t111)), u114001] 25 (0, 0))) := ⟨h4_⟩
     replace HI0 : Aside0 (IsS44 w0 w34 g s0_0 t133) := ⟨h5_⟩
     replace HK : Aside0 (KeepBut w w34 g none) := ⟨h6_⟩
     replace HB : Aside0 (Below w0.heap.size w0 w34) := ⟨h7_⟩
     clear h0_ h1_ h2_ h3_ h4_ h5_ h6_ h7_
     have hHeld : w34.cell? ⟨gb113, 0, none⟩ = some (.int .i64 (wrap64 (2 + t111))) ∧ w34.cell? ⟨gb113, 1, none⟩ = some (u114001) := hS_
     refine nm2_ ?_
     refine one_ (i := 19) (N := some 5) z16_0 rfl rfl (one_of HT_.out (by kernel_rfl)) (by decide) (fun K hK => ?_)
     refine bs_ 5 #[.int .i64 0, .int .i64 0, .int .i64 0, .int .i64 0, .int .i64 0] 33 ?_
     intro gb134 hg w35 hbox hb
     replace HO_114001 := Aside0.mk (rB16 (Kd.R_elderB HO_114001.out gb134 (Nat.le_of_eq hg.symm)) hb)
     replace HO124 := Aside0.mk (rB16 HO124.out hb)
     replace HO129 := Aside0.mk (rB16 HO129.out hb)
     replace HB := Aside0.mk (below_step HB.out hb)
     have BK134 := Aside0.mk (hbox)
     have GW134 := Aside0.mk ((by rw [hg]; exact (keep_size (w := w) (g := g) (row := none) HK.out) : w.heap.size ≤ gb134))
     have GE134 := Aside0.mk ((Nat.le_trans HW0.out (by rw [hg]; exact (keep_size (w := w) (g := g) (row := none) HK.out) : w.heap.size ≤ gb134) : w0.heap.size ≤ gb134))
     replace HK := Aside0.mk (KeepBut.trans HK.out (KeepBut.of_below hb g none) (.inl rfl))
     have NB110_134 := Aside0.mk (nl_ BK110.out hg)
     have NB134_110 := Aside0.mk (nm_ BK110.out hg)
     replace BK110 := kb_ BK110 hb
     have NB113_134 := Aside0.mk (nl_ BK113.out hg)
     have NB134_113 := Aside0.mk (nm_ BK113.out hg)
     replace BK113 := kb_ BK113 hb
     have NB0_134 := Aside0.mk ((by rw [hg]; exact Nat.ne_of_lt (IsS44.lt (show IsS44 w0 _ g s0_0 t133 from ni44_16 HI0.out)) : g ≠ gb134))
     have NB134_0 := Aside0.mk ((by rw [hg]; exact Nat.ne_of_gt (IsS44.lt (show IsS44 w0 _ g s0_0 t133 from ni44_16 HI0.out)) : gb134 ≠ g))
     replace HI0 := Aside0.mk (IsS44.below HI0.out hb)
     clear hb hbox hg
     refine hK.out _ _ ⟨ct_ BK113.out 0, ct_ BK113.out 1⟩ (fun hHeld => ?_)
     clear hK K
     refine nm1_ (some 5) ?_
     exact norm_ nn_ (hJ3_7_10_11_12_14_15_17_19 (v123, v128, gb134) _ ⟨hHeld, HO124.out, HO129.out, (by (with_reducible repeat (first | apply rA16 | apply rN16 | apply Kd.R_drew)); exact Kd.R_mono HO_114001.out (fun _ hk => by first | exact hk.2 | trivial | simp_all)), BK110.out, BK113.out, BK134.out, GW134.out, GE134.out, NB0_134.out, NB134_0.out, NB110_134.out, NB134_110.out, NB113_134.out, NB134_113.out, HI0.out, HK.out, HB.out⟩)
    intro hJ3_7_10_11_12_14_15_17
    refine join_ (σ := Value × Value × Nat) 3 z16_2 (fun s_ => [(19, .int .i64 t116), (23, .int .i64 t118), (26, .int .i64 t120), (27, s_.1), (28, .int .i64 t125), (30, s_.2.1), (31, .int .i64 t130), (5, .pointer (some ⟨s_.2.2, 0, none⟩))]) (fun s_ w' => (w'.cell? ⟨gb113, 0, none⟩ = some (.int .i64 (wrap64 (2 + t111))) ∧ w'.cell? ⟨gb113, 1, none⟩ = some (u114001)) ∧ (Kd.R (Kd.int .i64) 3 w' w.heap.size (fun k_ => some k_ ≠ (s_.2.1 : Value).ownBlock) s_.1 y122) ∧ (Kd.R (Kd.int .i64) 3 w' w.heap.size (fun k_ => some k_ ≠ (s_.1 : Value).ownBlock) s_.2.1 y127) ∧ (Kd.R k33 33 w' w.heap.size (fun k_ => k_ ≠ s_.2.2) u114001 x114001_1) ∧ (w'.heap[gb110]? = some (.cells #[.int .i64 0, .slice none 0 0] 25 (0, 0))) ∧ (w'.heap[gb113]? = some (.cells #[.int .i64 (wrap64 (2 + t111)), u114001] 25 (0, 0))) ∧ (w'.heap[s_.2.2]? = some (.cells #[.int .i64 0, .int .i64 0, .int .i64 0, .int .i64 0, .int .i64 0] 33 (0, 0))) ∧ (w.heap.size ≤ s_.2.2) ∧ (w0.heap.size ≤ s_.2.2) ∧ (g ≠ s_.2.2) ∧ (s_.2.2 ≠ g) ∧ (gb110 ≠ s_.2.2) ∧ (s_.2.2 ≠ gb110) ∧ (gb113 ≠ s_.2.2) ∧ (s_.2.2 ≠ gb113) ∧ (IsS44 w0 w' g s0_0 t131) ∧ (KeepBut w w' g none) ∧ (Below w0.heap.size w0 w')) ?_ ?_
    ·skip
     rintro ⟨v123, v128, gb134⟩ w34 ⟨hS_, h0_, h1_, h2_, h3_, h4_, h5_, h6_, h7_, h8_, h9_, h10_, h11_, h12_, h13_, h14_, h15_, h16_⟩
     have HO124 : Aside0 (Kd.R (Kd.int .i64) 3 w34 w.heap.size (fun k_ => some k_ ≠ (v128 : Value).ownBlock) v123 y122) := ⟨h0_⟩
     have HO129 : Aside0 (Kd.R (Kd.int .i64) 3 w34 w.heap.size (fun k_ => some k_ ≠ (v123 : Value).ownBlock) v128 y127) := ⟨h1_⟩
     replace HO_114001 : Aside0 (Kd.R k33 33 w34 w.heap.size (fun k_ => k_ ≠ gb134) u114001 x114001_1) := ⟨h2_⟩
     replace BK110 : Aside0 (w34.heap[gb110]? = some (.cells #[.int .i64 0, .slice none 0 0] 25 (0, 0))) := ⟨h3_⟩
     replace BK113 : Aside0 (w34.heap[gb113]? = some (.cells #[.int .i64 (wrap64 (2 + t111)), u114001] 25 (0, 0))) := ⟨h4_⟩
     have BK134 : Aside0 (w34.heap[gb134]? = some (.cells #[.int .i64 0, .int .i64 0, .int .i64 0, .int .i64 0, .int .i64 0] 33 (0, 0))) := ⟨h5_⟩
     have GW134 : Aside0 (w.heap.size ≤ gb134) := ⟨h6_⟩
     have GE134 : Aside0 (w0.heap.size ≤ gb134) := ⟨h7_⟩
     have NB0_134 : Aside0 (g ≠ gb134) := ⟨h8_⟩
     have NB134_0 : Aside0 (gb134 ≠ g) := ⟨h9_⟩
     have NB110_134 : Aside0 (gb110 ≠ gb134) := ⟨h10_⟩
     have NB134_110 : Aside0 (gb134 ≠ gb110) := ⟨h11_⟩
     have NB113_134 : Aside0 (gb113 ≠ gb134) := ⟨h12_⟩
     have NB134_113 : Aside0 (gb134 ≠ gb113) := ⟨h13_⟩
     replace HI0 : Aside0 (IsS44 w0 w34 g s0_0 t131) := ⟨h14_⟩
     replace HK : Aside0 (KeepBut w w34 g none) := ⟨h15_⟩
     replace HB : Aside0 (Below w0.heap.size w0 w34) := ⟨h16_⟩
     clear h0_ h1_ h2_ h3_ h4_ h5_ h6_ h7_ h8_ h9_ h10_ h11_ h12_ h13_ h14_ h15_ h16_
     have hHeld : w34.cell? ⟨gb113, 0, none⟩ = some (.int .i64 (wrap64 (2 + t111))) ∧ w34.cell? ⟨gb113, 1, none⟩ = some (u114001) := hS_
     refine nm2_ ?_
     refine one_ (i := 17) (N := some 33) (bm_ 21 786431) rfl rfl (one_of HT_.out (by kernel_rfl)) (by decide) (fun K hK => ?_)
     refine go_ Try.func17 #[.pointer (some ⟨g, 0, none⟩), .int .i64 10] ?_
     with_reducible refine (spec_l30Rd_pick.calls k1 g s0_0 t131 10 t132 t133 w0 _ ?side1 ?side2 A17.out).mono ?_
     (case side1 => exact HI0.out)
     (case side2 => exact HB.out)
     rintro e w35 ⟨rfl, hi, hb, hk⟩
     refine ⟨_, rfl, ?_⟩
     replace HO_114001 := Aside0.mk (Kd.R_mono (Kd.R_keep (IsS44.apart (show IsS44 w0 _ g s0_0 t131 from ni44_16 HI0.out) HO_114001.out (by decide)) hk (fun _ h => h.2)) (fun _ h => h.1))
     replace BK110 := kk_ BK110 hk NB110_0
     replace BK113 := kk_ BK113 hk NB113_0
     replace HO124 := Aside0.mk (Kd.R_mono (Kd.R_keep (IsS44.apart (show IsS44 w0 _ g s0_0 t131 from ni44_16 HI0.out) HO124.out (by decide)) hk (fun _ h => h.2)) (fun _ h => h.1))
     replace HO129 := Aside0.mk (Kd.R_mono (Kd.R_keep (IsS44.apart (show IsS44 w0 _ g s0_0 t131 from ni44_16 HI0.out) HO129.out (by decide)) hk (fun _ h => h.2)) (fun _ h => h.1))
     replace BK134 := kk_ BK134 hk NB134_0
     replace HK := Aside0.mk (KeepBut.trans HK.out hk (.inl rfl))
     replace HB := Aside0.mk (hb)
     replace HI0 := Aside0.mk (hi)
     (try clear hb)
     (try clear hb2)
     (try clear hk)
     (try clear hi)
     refine hK.out _ _ ⟨ct_ BK113.out 0, ct_ BK113.out 1⟩ (fun hHeld => ?_)
     clear hK K
     refine nm1_ (some 33) ?_
     refine pu_ 18 34 z16_0 HT_.out ?_
     exact norm_ nn_ (hJ3_7_10_11_12_14_15_17_19 (v123, v128, gb134) _ ⟨hHeld, HO124.out, HO129.out, HO_114001.out, BK110.out, BK113.out, BK134.out, GW134.out, GE134.out, NB0_134.out, NB134_0.out, NB110_134.out, NB134_110.out, NB113_134.out, NB134_113.out, HI0.out, HK.out, HB.out⟩)
    intro hJ3_7_10_11_12_14_15_19
    refine join_ (σ := Value × Value) 4 z16_3 (fun s_ => [(19, .int .i64 t116), (23, .int .i64 t118), (26, .int .i64 t120), (27, s_.1), (28, .int .i64 t125), (30, s_.2), (31, .int .i64 t130)]) (fun s_ w' => (w'.cell? ⟨gb113, 0, none⟩ = some (.int .i64 (wrap64 (2 + t111))) ∧ w'.cell? ⟨gb113, 1, none⟩ = some (u114001)) ∧ (Kd.R (Kd.int .i64) 3 w' w.heap.size (fun k_ => some k_ ≠ (s_.2 : Value).ownBlock) s_.1 y122) ∧ (Kd.R (Kd.int .i64) 3 w' w.heap.size (fun k_ => some k_ ≠ (s_.1 : Value).ownBlock) s_.2 y127) ∧ (Kd.R k33 33 w' w.heap.size (fun _ => True) u114001 x114001_1) ∧ (w'.heap[gb110]? = some (.cells #[.int .i64 0, .slice none 0 0] 25 (0, 0))) ∧ (w'.heap[gb113]? = some (.cells #[.int .i64 (wrap64 (2 + t111)), u114001] 25 (0, 0))) ∧ (IsS44 w0 w' g s0_0 t131) ∧ (KeepBut w w' g none) ∧ (Below w0.heap.size w0 w')) ?_ ?_
    ·skip
     rintro ⟨v123, v128⟩ w33 ⟨hS_, h0_, h1_, h2_, h3_, h4_, h5_, h6_, h7_⟩
     have HO124 : Aside0 (Kd.R (Kd.int .i64) 3 w33 w.heap.size (fun k_ => some k_ ≠ (v128 : Value).ownBlock) v123 y122) := ⟨h0_⟩
     have HO129 : Aside0 (Kd.R (Kd.int .i64) 3 w33 w.heap.size (fun k_ => some k_ ≠ (v123 : Value).ownBlock) v128 y127) := ⟨h1_⟩
     replace HO_114001 : Aside0 (Kd.R k33 33 w33 w.heap.size (fun _ => True) u114001 x114001_1) := ⟨h2_⟩
     replace BK110 : Aside0 (w33.heap[gb110]? = some (.cells #[.int .i64 0, .slice none 0 0] 25 (0, 0))) := ⟨h3_⟩
     replace BK113 : Aside0 (w33.heap[gb113]? = some (.cells #[.int .i64 (wrap64 (2 + t111)), u114001] 25 (0, 0))) := ⟨h4_⟩
     replace HI0 : Aside0 (IsS44 w0 w33 g s0_0 t131) := ⟨h5_⟩
     replace HK : Aside0 (KeepBut w w33 g none) := ⟨h6_⟩
     replace HB : Aside0 (Below w0.heap.size w0 w33) := ⟨h7_⟩
     clear h0_ h1_ h2_ h3_ h4_ h5_ h6_ h7_
     have hHeld : w33.cell? ⟨gb113, 0, none⟩ = some (.int .i64 (wrap64 (2 + t111))) ∧ w33.cell? ⟨gb113, 1, none⟩ = some (u114001) := hS_
     refine nm2_ ?_
     refine two_ (i := 17) (j := 19) (Ni := some 33) (Nj := some 5) (bm_ 21 262143) z16_2 rfl rfl rfl rfl (two_of HT_.out (by kernel_rfl)) (by decide) (by decide) (fun K hK => ?_) (fun K hK => ?_)
     ·skip
      refine go_ Try.func17 #[.pointer (some ⟨g, 0, none⟩), .int .i64 10] ?_
      with_reducible refine (spec_l30Rd_pick.calls k1 g s0_0 t131 10 t132 t133 w0 _ ?side1 ?side2 A17.out).mono ?_
      (case side1 => exact HI0.out)
      (case side2 => exact HB.out)
      rintro e w34 ⟨rfl, hi, hb, hk⟩
      refine ⟨_, rfl, ?_⟩
      replace HO_114001 := Aside0.mk (Kd.R_mono (Kd.R_keep (IsS44.apart (show IsS44 w0 _ g s0_0 t131 from ni44_16 HI0.out) HO_114001.out (by decide)) hk (fun _ h => h.2)) (fun _ h => h.1))
      replace BK110 := kk_ BK110 hk NB110_0
      replace BK113 := kk_ BK113 hk NB113_0
      replace HO124 := Aside0.mk (Kd.R_mono (Kd.R_keep (IsS44.apart (show IsS44 w0 _ g s0_0 t131 from ni44_16 HI0.out) HO124.out (by decide)) hk (fun _ h => h.2)) (fun _ h => h.1))
      replace HO129 := Aside0.mk (Kd.R_mono (Kd.R_keep (IsS44.apart (show IsS44 w0 _ g s0_0 t131 from ni44_16 HI0.out) HO129.out (by decide)) hk (fun _ h => h.2)) (fun _ h => h.1))
      replace HK := Aside0.mk (KeepBut.trans HK.out hk (.inl rfl))
      replace HB := Aside0.mk (hb)
      replace HI0 := Aside0.mk (hi)
      (try clear hb)
      (try clear hb2)
      (try clear hk)
      (try clear hi)
      refine hK.out _ _ ⟨ct_ BK113.out 0, ct_ BK113.out 1⟩ (fun hHeld => ?_)
      clear hK K
      refine nm1_ (some 33) ?_
      refine pu_ 18 34 z16_1 HT_.out ?_
      exact norm_ nn_ (hJ3_7_10_11_12_14_15_17 (v123, v128) _ ⟨hHeld, HO124.out, HO129.out, HO_114001.out, BK110.out, BK113.out, HI0.out, HK.out, HB.out⟩)
     ·skip
      refine bs_ 5 #[.int .i64 0, .int .i64 0, .int .i64 0, .int .i64 0, .int .i64 0] 33 ?_
      intro gb134 hg w34 hbox hb
      replace HO_114001 := Aside0.mk (rB16 (Kd.R_elderB HO_114001.out gb134 (Nat.le_of_eq hg.symm)) hb)
      replace HO124 := Aside0.mk (rB16 HO124.out hb)
      replace HO129 := Aside0.mk (rB16 HO129.out hb)
      replace HB := Aside0.mk (below_step HB.out hb)
      have BK134 := Aside0.mk (hbox)
      have GW134 := Aside0.mk ((by rw [hg]; exact (keep_size (w := w) (g := g) (row := none) HK.out) : w.heap.size ≤ gb134))
      have GE134 := Aside0.mk ((Nat.le_trans HW0.out (by rw [hg]; exact (keep_size (w := w) (g := g) (row := none) HK.out) : w.heap.size ≤ gb134) : w0.heap.size ≤ gb134))
      replace HK := Aside0.mk (KeepBut.trans HK.out (KeepBut.of_below hb g none) (.inl rfl))
      have NB110_134 := Aside0.mk (nl_ BK110.out hg)
      have NB134_110 := Aside0.mk (nm_ BK110.out hg)
      replace BK110 := kb_ BK110 hb
      have NB113_134 := Aside0.mk (nl_ BK113.out hg)
      have NB134_113 := Aside0.mk (nm_ BK113.out hg)
      replace BK113 := kb_ BK113 hb
      have NB0_134 := Aside0.mk ((by rw [hg]; exact Nat.ne_of_lt (IsS44.lt (show IsS44 w0 _ g s0_0 t131 from ni44_16 HI0.out)) : g ≠ gb134))
      have NB134_0 := Aside0.mk ((by rw [hg]; exact Nat.ne_of_gt (IsS44.lt (show IsS44 w0 _ g s0_0 t131 from ni44_16 HI0.out)) : gb134 ≠ g))
      replace HI0 := Aside0.mk (IsS44.below HI0.out hb)
      clear hb hbox hg
      refine hK.out _ _ ⟨ct_ BK113.out 0, ct_ BK113.out 1⟩ (fun hHeld => ?_)
      clear hK K
      refine nm1_ (some 5) ?_
      exact norm_ nn_ (hJ3_7_10_11_12_14_15_19 (v123, v128, gb134) _ ⟨hHeld, HO124.out, HO129.out, (by (with_reducible repeat (first | apply rA16 | apply rN16 | apply Kd.R_drew)); exact Kd.R_mono HO_114001.out (fun _ hk => by first | exact hk.2 | trivial | simp_all)), BK110.out, BK113.out, BK134.out, GW134.out, GE134.out, NB0_134.out, NB134_0.out, NB110_134.out, NB134_110.out, NB113_134.out, NB134_113.out, HI0.out, HK.out, HB.out⟩)
    intro hJ3_7_10_11_12_14_15
    refine join_ (σ := Value × Value × Nat) 4 z16_4 (fun s_ => [(19, .int .i64 t116), (23, .int .i64 t118), (26, .int .i64 t120), (27, s_.1), (28, .int .i64 t125), (30, s_.2.1), (5, .pointer (some ⟨s_.2.2, 0, none⟩))]) (fun s_ w' => (w'.cell? ⟨gb113, 0, none⟩ = some (.int .i64 (wrap64 (2 + t111))) ∧ w'.cell? ⟨gb113, 1, none⟩ = some (u114001)) ∧ (Kd.R (Kd.int .i64) 3 w' w.heap.size (fun k_ => some k_ ≠ (s_.2.1 : Value).ownBlock) s_.1 y122) ∧ (Kd.R (Kd.int .i64) 3 w' w.heap.size (fun k_ => some k_ ≠ (s_.1 : Value).ownBlock) s_.2.1 y127) ∧ (Kd.R k33 33 w' w.heap.size (fun k_ => k_ ≠ s_.2.2) u114001 x114001_1) ∧ (w'.heap[gb110]? = some (.cells #[.int .i64 0, .slice none 0 0] 25 (0, 0))) ∧ (w'.heap[gb113]? = some (.cells #[.int .i64 (wrap64 (2 + t111)), u114001] 25 (0, 0))) ∧ (w'.heap[s_.2.2]? = some (.cells #[.int .i64 0, .int .i64 0, .int .i64 0, .int .i64 0, .int .i64 0] 33 (0, 0))) ∧ (w.heap.size ≤ s_.2.2) ∧ (w0.heap.size ≤ s_.2.2) ∧ (g ≠ s_.2.2) ∧ (s_.2.2 ≠ g) ∧ (gb110 ≠ s_.2.2) ∧ (s_.2.2 ≠ gb110) ∧ (gb113 ≠ s_.2.2) ∧ (s_.2.2 ≠ gb113) ∧ (IsS44 w0 w' g s0_0 t126) ∧ (KeepBut w w' g none) ∧ (Below w0.heap.size w0 w')) ?_ ?_
    ·skip
     rintro ⟨v123, v128, gb134⟩ w32 ⟨hS_, h0_, h1_, h2_, h3_, h4_, h5_, h6_, h7_, h8_, h9_, h10_, h11_, h12_, h13_, h14_, h15_, h16_⟩
     have HO124 : Aside0 (Kd.R (Kd.int .i64) 3 w32 w.heap.size (fun k_ => some k_ ≠ (v128 : Value).ownBlock) v123 y122) := ⟨h0_⟩
     have HO129 : Aside0 (Kd.R (Kd.int .i64) 3 w32 w.heap.size (fun k_ => some k_ ≠ (v123 : Value).ownBlock) v128 y127) := ⟨h1_⟩
     replace HO_114001 : Aside0 (Kd.R k33 33 w32 w.heap.size (fun k_ => k_ ≠ gb134) u114001 x114001_1) := ⟨h2_⟩
     replace BK110 : Aside0 (w32.heap[gb110]? = some (.cells #[.int .i64 0, .slice none 0 0] 25 (0, 0))) := ⟨h3_⟩
     replace BK113 : Aside0 (w32.heap[gb113]? = some (.cells #[.int .i64 (wrap64 (2 + t111)), u114001] 25 (0, 0))) := ⟨h4_⟩
     have BK134 : Aside0 (w32.heap[gb134]? = some (.cells #[.int .i64 0, .int .i64 0, .int .i64 0, .int .i64 0, .int .i64 0] 33 (0, 0))) := ⟨h5_⟩
     have GW134 : Aside0 (w.heap.size ≤ gb134) := ⟨h6_⟩
     have GE134 : Aside0 (w0.heap.size ≤ gb134) := ⟨h7_⟩
     have NB0_134 : Aside0 (g ≠ gb134) := ⟨h8_⟩
     have NB134_0 : Aside0 (gb134 ≠ g) := ⟨h9_⟩
     have NB110_134 : Aside0 (gb110 ≠ gb134) := ⟨h10_⟩
     have NB134_110 : Aside0 (gb134 ≠ gb110) := ⟨h11_⟩
     have NB113_134 : Aside0 (gb113 ≠ gb134) := ⟨h12_⟩
     have NB134_113 : Aside0 (gb134 ≠ gb113) := ⟨h13_⟩
     replace HI0 : Aside0 (IsS44 w0 w32 g s0_0 t126) := ⟨h14_⟩
     replace HK : Aside0 (KeepBut w w32 g none) := ⟨h15_⟩
     replace HB : Aside0 (Below w0.heap.size w0 w32) := ⟨h16_⟩
     clear h0_ h1_ h2_ h3_ h4_ h5_ h6_ h7_ h8_ h9_ h10_ h11_ h12_ h13_ h14_ h15_ h16_
     have hHeld : w32.cell? ⟨gb113, 0, none⟩ = some (.int .i64 (wrap64 (2 + t111))) ∧ w32.cell? ⟨gb113, 1, none⟩ = some (u114001) := hS_
     obtain ⟨Ao33, co33, eo33⟩ := Kd.R_slice HO129.out
     (first | subst eo33 | (injection eo33 with f1_ f2_ f3_; have f4_ := f1_.symm; have f5_ := f3_.symm; clear f1_ f2_ f3_; subst f4_; subst f5_))
     refine nm2_ ?_
     refine one_ (i := 15) (N := some 31) z16_2 rfl rfl (one_of HT_.out (by kernel_rfl)) (by decide) (fun K hK => ?_)
     refine go_ Try.func18 #[.pointer (some ⟨g, 0, none⟩), .slice Ao33 y127.length co33] ?_
     with_reducible refine (spec_l30Rd_one.calls k1 g s0_0 t126 _ _ y127 t130 t131 w0 _ ?side1 ?side2 ?side3 ?side4 ?side5 A16.out).mono ?_
     (case side1 => exact HI0.out)
     (case side2 => exact HB.out)
     (case side3 => exact nc_ (Kd.R_reads' HO129.out).2.2)
     (case side4 => exact (Kd.R_reads' HO129.out).2.1)
     (case side5 => exact far_slice (IsS44.own_ne HI0.out HO129.out (by decide)))
     rintro e w34 ⟨rfl, hi, hb, hk⟩
     refine ⟨_, rfl, ?_⟩
     replace HO_114001 := Aside0.mk (Kd.R_mono (Kd.R_keep (IsS44.apart (show IsS44 w0 _ g s0_0 t126 from ni44_16 HI0.out) HO_114001.out (by decide)) hk (fun _ h => h.2)) (fun _ h => h.1))
     replace BK110 := kk_ BK110 hk NB110_0
     replace BK113 := kk_ BK113 hk NB113_0
     replace HO124 := Aside0.mk (Kd.R_mono (Kd.R_keep (IsS44.apart (show IsS44 w0 _ g s0_0 t126 from ni44_16 HI0.out) HO124.out (by decide)) hk (fun _ h => h.2)) (fun _ h => h.1))
     replace HO129 := Aside0.mk (Kd.R_mono (Kd.R_keep (IsS44.apart (show IsS44 w0 _ g s0_0 t126 from ni44_16 HI0.out) HO129.out (by decide)) hk (fun _ h => h.2)) (fun _ h => h.1))
     replace BK134 := kk_ BK134 hk NB134_0
     replace HK := Aside0.mk (KeepBut.trans HK.out hk (.inl rfl))
     replace HB := Aside0.mk (hb)
     replace HI0 := Aside0.mk (hi)
     (try clear hb)
     (try clear hb2)
     (try clear hk)
     (try clear hi)
     refine hK.out _ _ ⟨ct_ BK113.out 0, ct_ BK113.out 1⟩ (fun hHeld => ?_)
     clear hK K
     refine nm1_ (some 31) ?_
     exact norm_ nn_ (hJ3_7_10_11_12_14_15_19 (v123, .slice Ao33 y127.length co33, gb134) _ ⟨hHeld, HO124.out, HO129.out, HO_114001.out, BK110.out, BK113.out, BK134.out, GW134.out, GE134.out, NB0_134.out, NB134_0.out, NB110_134.out, NB134_110.out, NB113_134.out, NB134_113.out, HI0.out, HK.out, HB.out⟩)
    intro hJ3_7_10_11_12_14_19
    refine join_ (σ := Value × Value) 5 z16_5 (fun s_ => [(19, .int .i64 t116), (23, .int .i64 t118), (26, .int .i64 t120), (27, s_.1), (28, .int .i64 t125), (30, s_.2)]) (fun s_ w' => (w'.cell? ⟨gb113, 0, none⟩ = some (.int .i64 (wrap64 (2 + t111))) ∧ w'.cell? ⟨gb113, 1, none⟩ = some (u114001)) ∧ (Kd.R (Kd.int .i64) 3 w' w.heap.size (fun k_ => some k_ ≠ (s_.2 : Value).ownBlock) s_.1 y122) ∧ (Kd.R (Kd.int .i64) 3 w' w.heap.size (fun k_ => some k_ ≠ (s_.1 : Value).ownBlock) s_.2 y127) ∧ (Kd.R k33 33 w' w.heap.size (fun _ => True) u114001 x114001_1) ∧ (w'.heap[gb110]? = some (.cells #[.int .i64 0, .slice none 0 0] 25 (0, 0))) ∧ (w'.heap[gb113]? = some (.cells #[.int .i64 (wrap64 (2 + t111)), u114001] 25 (0, 0))) ∧ (IsS44 w0 w' g s0_0 t126) ∧ (KeepBut w w' g none) ∧ (Below w0.heap.size w0 w')) ?_ ?_
    ·skip
     rintro ⟨v123, v128⟩ w31 ⟨hS_, h0_, h1_, h2_, h3_, h4_, h5_, h6_, h7_⟩
     have HO124 : Aside0 (Kd.R (Kd.int .i64) 3 w31 w.heap.size (fun k_ => some k_ ≠ (v128 : Value).ownBlock) v123 y122) := ⟨h0_⟩
     have HO129 : Aside0 (Kd.R (Kd.int .i64) 3 w31 w.heap.size (fun k_ => some k_ ≠ (v123 : Value).ownBlock) v128 y127) := ⟨h1_⟩
     replace HO_114001 : Aside0 (Kd.R k33 33 w31 w.heap.size (fun _ => True) u114001 x114001_1) := ⟨h2_⟩
     replace BK110 : Aside0 (w31.heap[gb110]? = some (.cells #[.int .i64 0, .slice none 0 0] 25 (0, 0))) := ⟨h3_⟩
     replace BK113 : Aside0 (w31.heap[gb113]? = some (.cells #[.int .i64 (wrap64 (2 + t111)), u114001] 25 (0, 0))) := ⟨h4_⟩
     replace HI0 : Aside0 (IsS44 w0 w31 g s0_0 t126) := ⟨h5_⟩
     replace HK : Aside0 (KeepBut w w31 g none) := ⟨h6_⟩
     replace HB : Aside0 (Below w0.heap.size w0 w31) := ⟨h7_⟩
     clear h0_ h1_ h2_ h3_ h4_ h5_ h6_ h7_
     have hHeld : w31.cell? ⟨gb113, 0, none⟩ = some (.int .i64 (wrap64 (2 + t111))) ∧ w31.cell? ⟨gb113, 1, none⟩ = some (u114001) := hS_
     obtain ⟨Ao32, co32, eo32⟩ := Kd.R_slice HO129.out
     (first | subst eo32 | (injection eo32 with f1_ f2_ f3_; have f4_ := f1_.symm; have f5_ := f3_.symm; clear f1_ f2_ f3_; subst f4_; subst f5_))
     refine nm2_ ?_
     refine two_ (i := 15) (j := 19) (Ni := some 31) (Nj := some 5) z16_3 z16_4 rfl rfl rfl rfl (two_of HT_.out (by kernel_rfl)) (by decide) (by decide) (fun K hK => ?_) (fun K hK => ?_)
     ·skip
      refine go_ Try.func18 #[.pointer (some ⟨g, 0, none⟩), .slice Ao32 y127.length co32] ?_
      with_reducible refine (spec_l30Rd_one.calls k1 g s0_0 t126 _ _ y127 t130 t131 w0 _ ?side1 ?side2 ?side3 ?side4 ?side5 A16.out).mono ?_
      (case side1 => exact HI0.out)
      (case side2 => exact HB.out)
      (case side3 => exact nc_ (Kd.R_reads' HO129.out).2.2)
      (case side4 => exact (Kd.R_reads' HO129.out).2.1)
      (case side5 => exact far_slice (IsS44.own_ne HI0.out HO129.out (by decide)))
      rintro e w33 ⟨rfl, hi, hb, hk⟩
      refine ⟨_, rfl, ?_⟩
      replace HO_114001 := Aside0.mk (Kd.R_mono (Kd.R_keep (IsS44.apart (show IsS44 w0 _ g s0_0 t126 from ni44_16 HI0.out) HO_114001.out (by decide)) hk (fun _ h => h.2)) (fun _ h => h.1))
      replace BK110 := kk_ BK110 hk NB110_0
      replace BK113 := kk_ BK113 hk NB113_0
      replace HO124 := Aside0.mk (Kd.R_mono (Kd.R_keep (IsS44.apart (show IsS44 w0 _ g s0_0 t126 from ni44_16 HI0.out) HO124.out (by decide)) hk (fun _ h => h.2)) (fun _ h => h.1))
      replace HO129 := Aside0.mk (Kd.R_mono (Kd.R_keep (IsS44.apart (show IsS44 w0 _ g s0_0 t126 from ni44_16 HI0.out) HO129.out (by decide)) hk (fun _ h => h.2)) (fun _ h => h.1))
      replace HK := Aside0.mk (KeepBut.trans HK.out hk (.inl rfl))
      replace HB := Aside0.mk (hb)
      replace HI0 := Aside0.mk (hi)
      (try clear hb)
      (try clear hb2)
      (try clear hk)
      (try clear hi)
      refine hK.out _ _ ⟨ct_ BK113.out 0, ct_ BK113.out 1⟩ (fun hHeld => ?_)
      clear hK K
      refine nm1_ (some 31) ?_
      exact norm_ nn_ (hJ3_7_10_11_12_14_15 (v123, .slice Ao32 y127.length co32) _ ⟨hHeld, HO124.out, HO129.out, HO_114001.out, BK110.out, BK113.out, HI0.out, HK.out, HB.out⟩)
     ·skip
      refine bs_ 5 #[.int .i64 0, .int .i64 0, .int .i64 0, .int .i64 0, .int .i64 0] 33 ?_
      intro gb134 hg w32 hbox hb
      replace HO_114001 := Aside0.mk (rB16 (Kd.R_elderB HO_114001.out gb134 (Nat.le_of_eq hg.symm)) hb)
      replace HO124 := Aside0.mk (rB16 HO124.out hb)
      replace HO129 := Aside0.mk (rB16 HO129.out hb)
      replace HB := Aside0.mk (below_step HB.out hb)
      have BK134 := Aside0.mk (hbox)
      have GW134 := Aside0.mk ((by rw [hg]; exact (keep_size (w := w) (g := g) (row := none) HK.out) : w.heap.size ≤ gb134))
      have GE134 := Aside0.mk ((Nat.le_trans HW0.out (by rw [hg]; exact (keep_size (w := w) (g := g) (row := none) HK.out) : w.heap.size ≤ gb134) : w0.heap.size ≤ gb134))
      replace HK := Aside0.mk (KeepBut.trans HK.out (KeepBut.of_below hb g none) (.inl rfl))
      have NB110_134 := Aside0.mk (nl_ BK110.out hg)
      have NB134_110 := Aside0.mk (nm_ BK110.out hg)
      replace BK110 := kb_ BK110 hb
      have NB113_134 := Aside0.mk (nl_ BK113.out hg)
      have NB134_113 := Aside0.mk (nm_ BK113.out hg)
      replace BK113 := kb_ BK113 hb
      have NB0_134 := Aside0.mk ((by rw [hg]; exact Nat.ne_of_lt (IsS44.lt (show IsS44 w0 _ g s0_0 t126 from ni44_16 HI0.out)) : g ≠ gb134))
      have NB134_0 := Aside0.mk ((by rw [hg]; exact Nat.ne_of_gt (IsS44.lt (show IsS44 w0 _ g s0_0 t126 from ni44_16 HI0.out)) : gb134 ≠ g))
      replace HI0 := Aside0.mk (IsS44.below HI0.out hb)
      clear hb hbox hg
      refine hK.out _ _ ⟨ct_ BK113.out 0, ct_ BK113.out 1⟩ (fun hHeld => ?_)
      clear hK K
      refine nm1_ (some 5) ?_
      exact norm_ nn_ (hJ3_7_10_11_12_14_19 (v123, (.slice Ao32 y127.length co32), gb134) _ ⟨hHeld, HO124.out, HO129.out, (by (with_reducible repeat (first | apply rA16 | apply rN16 | apply Kd.R_drew)); exact Kd.R_mono HO_114001.out (fun _ hk => by first | exact hk.2 | trivial | simp_all)), BK110.out, BK113.out, BK134.out, GW134.out, GE134.out, NB0_134.out, NB134_0.out, NB110_134.out, NB134_110.out, NB113_134.out, NB134_113.out, HI0.out, HK.out, HB.out⟩)
    intro hJ3_7_10_11_12_14
    refine join_ (σ := Value × Nat) 5 z16_6 (fun s_ => [(19, .int .i64 t116), (23, .int .i64 t118), (26, .int .i64 t120), (27, s_.1), (28, .int .i64 t125), (5, .pointer (some ⟨s_.2, 0, none⟩))]) (fun s_ w' => (w'.cell? ⟨gb113, 0, none⟩ = some (.int .i64 (wrap64 (2 + t111))) ∧ w'.cell? ⟨gb113, 1, none⟩ = some (u114001)) ∧ (Kd.R (Kd.int .i64) 3 w' w.heap.size (fun _ => True) s_.1 y122) ∧ (Kd.R k33 33 w' w.heap.size (fun k_ => k_ ≠ s_.2) u114001 x114001_1) ∧ (w'.heap[gb110]? = some (.cells #[.int .i64 0, .slice none 0 0] 25 (0, 0))) ∧ (w'.heap[gb113]? = some (.cells #[.int .i64 (wrap64 (2 + t111)), u114001] 25 (0, 0))) ∧ (w'.heap[s_.2]? = some (.cells #[.int .i64 0, .int .i64 0, .int .i64 0, .int .i64 0, .int .i64 0] 33 (0, 0))) ∧ (w.heap.size ≤ s_.2) ∧ (w0.heap.size ≤ s_.2) ∧ (g ≠ s_.2) ∧ (s_.2 ≠ g) ∧ (gb110 ≠ s_.2) ∧ (s_.2 ≠ gb110) ∧ (gb113 ≠ s_.2) ∧ (s_.2 ≠ gb113) ∧ (IsS44 w0 w' g s0_0 t126) ∧ (KeepBut w w' g none) ∧ (Below w0.heap.size w0 w')) ?_ ?_
    ·skip
     rintro ⟨v123, gb134⟩ w30 ⟨hS_, h0_, h1_, h2_, h3_, h4_, h5_, h6_, h7_, h8_, h9_, h10_, h11_, h12_, h13_, h14_, h15_⟩
     have HO124 : Aside0 (Kd.R (Kd.int .i64) 3 w30 w.heap.size (fun _ => True) v123 y122) := ⟨h0_⟩
     replace HO_114001 : Aside0 (Kd.R k33 33 w30 w.heap.size (fun k_ => k_ ≠ gb134) u114001 x114001_1) := ⟨h1_⟩
     replace BK110 : Aside0 (w30.heap[gb110]? = some (.cells #[.int .i64 0, .slice none 0 0] 25 (0, 0))) := ⟨h2_⟩
     replace BK113 : Aside0 (w30.heap[gb113]? = some (.cells #[.int .i64 (wrap64 (2 + t111)), u114001] 25 (0, 0))) := ⟨h3_⟩
     have BK134 : Aside0 (w30.heap[gb134]? = some (.cells #[.int .i64 0, .int .i64 0, .int .i64 0, .int .i64 0, .int .i64 0] 33 (0, 0))) := ⟨h4_⟩
     have GW134 : Aside0 (w.heap.size ≤ gb134) := ⟨h5_⟩
     have GE134 : Aside0 (w0.heap.size ≤ gb134) := ⟨h6_⟩
     have NB0_134 : Aside0 (g ≠ gb134) := ⟨h7_⟩
     have NB134_0 : Aside0 (gb134 ≠ g) := ⟨h8_⟩
     have NB110_134 : Aside0 (gb110 ≠ gb134) := ⟨h9_⟩
     have NB134_110 : Aside0 (gb134 ≠ gb110) := ⟨h10_⟩
     have NB113_134 : Aside0 (gb113 ≠ gb134) := ⟨h11_⟩
     have NB134_113 : Aside0 (gb134 ≠ gb113) := ⟨h12_⟩
     replace HI0 : Aside0 (IsS44 w0 w30 g s0_0 t126) := ⟨h13_⟩
     replace HK : Aside0 (KeepBut w w30 g none) := ⟨h14_⟩
     replace HB : Aside0 (Below w0.heap.size w0 w30) := ⟨h15_⟩
     clear h0_ h1_ h2_ h3_ h4_ h5_ h6_ h7_ h8_ h9_ h10_ h11_ h12_ h13_ h14_ h15_
     have hHeld : w30.cell? ⟨gb113, 0, none⟩ = some (.int .i64 (wrap64 (2 + t111))) ∧ w30.cell? ⟨gb113, 1, none⟩ = some (u114001) := hS_
     refine nm2_ ?_
     refine one_ (i := 14) (N := some 30) z16_4 rfl rfl (one_of HT_.out (by kernel_rfl)) (by decide) (fun K hK => ?_)
     refine ls_ 30 3 [0, 0, 3, 8] [.int .i64 0, .int .i64 0, .int .i64 3, .int .i64 8] ?_
     intro v128 w31 ho32 hb hg_ hnew_
     clear hg_ hnew_
     (first | rw [← Ny127.out] at ho32 | (simp only [Int.reduceToNat] at ho32; rw [← Ny127.out] at ho32))
     replace HO_114001 := Aside0.mk (rB16 HO_114001.out hb)
     have HO129 := Aside0.mk (Kd.R_lower (Kd.R_new' ho32 (Kd.R_lt HO124.out)) (keep_size (w := w) (g := g) (row := none) HK.out))
     replace HO124 := Aside0.mk (Kd.R_elder' HO124.out (Kd.R_base ho32) hb)
     replace BK110 := kb_ BK110 hb
     replace BK113 := kb_ BK113 hb
     replace HI0 := Aside0.mk (IsS44.below HI0.out hb)
     replace BK134 := kb_ BK134 hb
     replace HK := Aside0.mk (KeepBut.trans HK.out (KeepBut.of_below hb g none) (.inl rfl))
     replace HB := Aside0.mk (below_step HB.out hb)
     clear hb ho32
     refine hK.out _ _ ⟨ct_ BK113.out 0, ct_ BK113.out 1⟩ (fun hHeld => ?_)
     clear hK K
     refine nm1_ (some 30) ?_
     exact norm_ nn_ (hJ3_7_10_11_12_14_19 (v123, v128, gb134) _ ⟨hHeld, (by (with_reducible repeat (first | apply rA16 | apply rN16 | apply Kd.R_drew)); exact Kd.R_mono HO124.out (fun _ hk => by first | exact hk.2 | trivial | simp_all)), (by (with_reducible repeat (first | apply rA16 | apply rN16 | apply Kd.R_drew)); exact Kd.R_mono HO129.out (fun _ hk => by first | exact hk.2 | trivial | simp_all)), HO_114001.out, BK110.out, BK113.out, BK134.out, GW134.out, GE134.out, NB0_134.out, NB134_0.out, NB110_134.out, NB134_110.out, NB113_134.out, NB134_113.out, HI0.out, HK.out, HB.out⟩)
    intro hJ3_7_10_11_12_19
    refine join_ (σ := Value × Value × Nat) 5 z16_7 (fun s_ => [(19, .int .i64 t116), (23, .int .i64 t118), (26, .int .i64 t120), (27, s_.1), (30, s_.2.1), (5, .pointer (some ⟨s_.2.2, 0, none⟩))]) (fun s_ w' => (w'.cell? ⟨gb113, 0, none⟩ = some (.int .i64 (wrap64 (2 + t111))) ∧ w'.cell? ⟨gb113, 1, none⟩ = some (u114001)) ∧ (Kd.R (Kd.int .i64) 3 w' w.heap.size (fun k_ => some k_ ≠ (s_.2.1 : Value).ownBlock) s_.1 y122) ∧ (Kd.R (Kd.int .i64) 3 w' w.heap.size (fun k_ => some k_ ≠ (s_.1 : Value).ownBlock) s_.2.1 y127) ∧ (Kd.R k33 33 w' w.heap.size (fun k_ => k_ ≠ s_.2.2) u114001 x114001_1) ∧ (w'.heap[gb110]? = some (.cells #[.int .i64 0, .slice none 0 0] 25 (0, 0))) ∧ (w'.heap[gb113]? = some (.cells #[.int .i64 (wrap64 (2 + t111)), u114001] 25 (0, 0))) ∧ (w'.heap[s_.2.2]? = some (.cells #[.int .i64 0, .int .i64 0, .int .i64 0, .int .i64 0, .int .i64 0] 33 (0, 0))) ∧ (w.heap.size ≤ s_.2.2) ∧ (w0.heap.size ≤ s_.2.2) ∧ (g ≠ s_.2.2) ∧ (s_.2.2 ≠ g) ∧ (gb110 ≠ s_.2.2) ∧ (s_.2.2 ≠ gb110) ∧ (gb113 ≠ s_.2.2) ∧ (s_.2.2 ≠ gb113) ∧ (IsS44 w0 w' g s0_0 t121) ∧ (KeepBut w w' g none) ∧ (Below w0.heap.size w0 w')) ?_ ?_
    ·skip
     rintro ⟨v123, v128, gb134⟩ w30 ⟨hS_, h0_, h1_, h2_, h3_, h4_, h5_, h6_, h7_, h8_, h9_, h10_, h11_, h12_, h13_, h14_, h15_, h16_⟩
     have HO124 : Aside0 (Kd.R (Kd.int .i64) 3 w30 w.heap.size (fun k_ => some k_ ≠ (v128 : Value).ownBlock) v123 y122) := ⟨h0_⟩
     have HO129 : Aside0 (Kd.R (Kd.int .i64) 3 w30 w.heap.size (fun k_ => some k_ ≠ (v123 : Value).ownBlock) v128 y127) := ⟨h1_⟩
     replace HO_114001 : Aside0 (Kd.R k33 33 w30 w.heap.size (fun k_ => k_ ≠ gb134) u114001 x114001_1) := ⟨h2_⟩
     replace BK110 : Aside0 (w30.heap[gb110]? = some (.cells #[.int .i64 0, .slice none 0 0] 25 (0, 0))) := ⟨h3_⟩
     replace BK113 : Aside0 (w30.heap[gb113]? = some (.cells #[.int .i64 (wrap64 (2 + t111)), u114001] 25 (0, 0))) := ⟨h4_⟩
     have BK134 : Aside0 (w30.heap[gb134]? = some (.cells #[.int .i64 0, .int .i64 0, .int .i64 0, .int .i64 0, .int .i64 0] 33 (0, 0))) := ⟨h5_⟩
     have GW134 : Aside0 (w.heap.size ≤ gb134) := ⟨h6_⟩
     have GE134 : Aside0 (w0.heap.size ≤ gb134) := ⟨h7_⟩
     have NB0_134 : Aside0 (g ≠ gb134) := ⟨h8_⟩
     have NB134_0 : Aside0 (gb134 ≠ g) := ⟨h9_⟩
     have NB110_134 : Aside0 (gb110 ≠ gb134) := ⟨h10_⟩
     have NB134_110 : Aside0 (gb134 ≠ gb110) := ⟨h11_⟩
     have NB113_134 : Aside0 (gb113 ≠ gb134) := ⟨h12_⟩
     have NB134_113 : Aside0 (gb134 ≠ gb113) := ⟨h13_⟩
     replace HI0 : Aside0 (IsS44 w0 w30 g s0_0 t121) := ⟨h14_⟩
     replace HK : Aside0 (KeepBut w w30 g none) := ⟨h15_⟩
     replace HB : Aside0 (Below w0.heap.size w0 w30) := ⟨h16_⟩
     clear h0_ h1_ h2_ h3_ h4_ h5_ h6_ h7_ h8_ h9_ h10_ h11_ h12_ h13_ h14_ h15_ h16_
     have hHeld : w30.cell? ⟨gb113, 0, none⟩ = some (.int .i64 (wrap64 (2 + t111))) ∧ w30.cell? ⟨gb113, 1, none⟩ = some (u114001) := hS_
     obtain ⟨Ao31, co31, eo31⟩ := Kd.R_slice HO124.out
     (first | subst eo31 | (injection eo31 with f1_ f2_ f3_; have f4_ := f1_.symm; have f5_ := f3_.symm; clear f1_ f2_ f3_; subst f4_; subst f5_))
     refine nm2_ ?_
     refine one_ (i := 12) (N := some 28) z16_4 rfl rfl (one_of HT_.out (by kernel_rfl)) (by decide) (fun K hK => ?_)
     refine go_ Try.func18 #[.pointer (some ⟨g, 0, none⟩), .slice Ao31 y122.length co31] ?_
     with_reducible refine (spec_l30Rd_one.calls k1 g s0_0 t121 _ _ y122 t125 t126 w0 _ ?side1 ?side2 ?side3 ?side4 ?side5 A15.out).mono ?_
     (case side1 => exact HI0.out)
     (case side2 => exact HB.out)
     (case side3 => exact nc_ (Kd.R_reads' HO124.out).2.2)
     (case side4 => exact (Kd.R_reads' HO124.out).2.1)
     (case side5 => exact far_slice (IsS44.own_ne HI0.out HO124.out (by decide)))
     rintro e w32 ⟨rfl, hi, hb, hk⟩
     refine ⟨_, rfl, ?_⟩
     replace HO_114001 := Aside0.mk (Kd.R_mono (Kd.R_keep (IsS44.apart (show IsS44 w0 _ g s0_0 t121 from ni44_16 HI0.out) HO_114001.out (by decide)) hk (fun _ h => h.2)) (fun _ h => h.1))
     replace BK110 := kk_ BK110 hk NB110_0
     replace BK113 := kk_ BK113 hk NB113_0
     replace HO124 := Aside0.mk (Kd.R_mono (Kd.R_keep (IsS44.apart (show IsS44 w0 _ g s0_0 t121 from ni44_16 HI0.out) HO124.out (by decide)) hk (fun _ h => h.2)) (fun _ h => h.1))
     replace HO129 := Aside0.mk (Kd.R_mono (Kd.R_keep (IsS44.apart (show IsS44 w0 _ g s0_0 t121 from ni44_16 HI0.out) HO129.out (by decide)) hk (fun _ h => h.2)) (fun _ h => h.1))
     replace BK134 := kk_ BK134 hk NB134_0
     replace HK := Aside0.mk (KeepBut.trans HK.out hk (.inl rfl))
     replace HB := Aside0.mk (hb)
     replace HI0 := Aside0.mk (hi)
     (try clear hb)
     (try clear hb2)
     (try clear hk)
     (try clear hi)
     refine hK.out _ _ ⟨ct_ BK113.out 0, ct_ BK113.out 1⟩ (fun hHeld => ?_)
     clear hK K
     refine nm1_ (some 28) ?_
     exact norm_ nn_ (hJ3_7_10_11_12_14_19 (.slice Ao31 y122.length co31, v128, gb134) _ ⟨hHeld, HO124.out, HO129.out, HO_114001.out, BK110.out, BK113.out, BK134.out, GW134.out, GE134.out, NB0_134.out, NB134_0.out, NB110_134.out, NB134_110.out, NB113_134.out, NB134_113.out, HI0.out, HK.out, HB.out⟩)
    intro hJ3_7_10_11_14_19
    refine join_ (σ := Value) 6 z16_8 (fun s_ => [(19, .int .i64 t116), (23, .int .i64 t118), (26, .int .i64 t120), (27, s_), (28, .int .i64 t125)]) (fun s_ w' => (w'.cell? ⟨gb113, 0, none⟩ = some (.int .i64 (wrap64 (2 + t111))) ∧ w'.cell? ⟨gb113, 1, none⟩ = some (u114001)) ∧ (Kd.R (Kd.int .i64) 3 w' w.heap.size (fun _ => True) s_ y122) ∧ (Kd.R k33 33 w' w.heap.size (fun _ => True) u114001 x114001_1) ∧ (w'.heap[gb110]? = some (.cells #[.int .i64 0, .slice none 0 0] 25 (0, 0))) ∧ (w'.heap[gb113]? = some (.cells #[.int .i64 (wrap64 (2 + t111)), u114001] 25 (0, 0))) ∧ (IsS44 w0 w' g s0_0 t126) ∧ (KeepBut w w' g none) ∧ (Below w0.heap.size w0 w')) ?_ ?_
    ·skip
     rintro v123 w29 ⟨hS_, h0_, h1_, h2_, h3_, h4_, h5_, h6_⟩
     have HO124 : Aside0 (Kd.R (Kd.int .i64) 3 w29 w.heap.size (fun _ => True) v123 y122) := ⟨h0_⟩
     replace HO_114001 : Aside0 (Kd.R k33 33 w29 w.heap.size (fun _ => True) u114001 x114001_1) := ⟨h1_⟩
     replace BK110 : Aside0 (w29.heap[gb110]? = some (.cells #[.int .i64 0, .slice none 0 0] 25 (0, 0))) := ⟨h2_⟩
     replace BK113 : Aside0 (w29.heap[gb113]? = some (.cells #[.int .i64 (wrap64 (2 + t111)), u114001] 25 (0, 0))) := ⟨h3_⟩
     replace HI0 : Aside0 (IsS44 w0 w29 g s0_0 t126) := ⟨h4_⟩
     replace HK : Aside0 (KeepBut w w29 g none) := ⟨h5_⟩
     replace HB : Aside0 (Below w0.heap.size w0 w29) := ⟨h6_⟩
     clear h0_ h1_ h2_ h3_ h4_ h5_ h6_
     have hHeld : w29.cell? ⟨gb113, 0, none⟩ = some (.int .i64 (wrap64 (2 + t111))) ∧ w29.cell? ⟨gb113, 1, none⟩ = some (u114001) := hS_
     refine nm2_ ?_
     refine two_ (i := 14) (j := 19) (Ni := some 30) (Nj := some 5) z16_5 z16_6 rfl rfl rfl rfl (two_of HT_.out (by kernel_rfl)) (by decide) (by decide) (fun K hK => ?_) (fun K hK => ?_)
     ·skip
      refine ls_ 30 3 [0, 0, 3, 8] [.int .i64 0, .int .i64 0, .int .i64 3, .int .i64 8] ?_
      intro v128 w30 ho31 hb hg_ hnew_
      clear hg_ hnew_
      (first | rw [← Ny127.out] at ho31 | (simp only [Int.reduceToNat] at ho31; rw [← Ny127.out] at ho31))
      replace HO_114001 := Aside0.mk (rB16 HO_114001.out hb)
      have HO129 := Aside0.mk (Kd.R_lower (Kd.R_new' ho31 (Kd.R_lt HO124.out)) (keep_size (w := w) (g := g) (row := none) HK.out))
      replace HO124 := Aside0.mk (Kd.R_elder' HO124.out (Kd.R_base ho31) hb)
      replace BK110 := kb_ BK110 hb
      replace BK113 := kb_ BK113 hb
      replace HI0 := Aside0.mk (IsS44.below HI0.out hb)
      replace HK := Aside0.mk (KeepBut.trans HK.out (KeepBut.of_below hb g none) (.inl rfl))
      replace HB := Aside0.mk (below_step HB.out hb)
      clear hb ho31
      refine hK.out _ _ ⟨ct_ BK113.out 0, ct_ BK113.out 1⟩ (fun hHeld => ?_)
      clear hK K
      refine nm1_ (some 30) ?_
      exact norm_ nn_ (hJ3_7_10_11_12_14 (v123, v128) _ ⟨hHeld, (by (with_reducible repeat (first | apply rA16 | apply rN16 | apply Kd.R_drew)); exact Kd.R_mono HO124.out (fun _ hk => by first | exact hk.2 | trivial | simp_all)), (by (with_reducible repeat (first | apply rA16 | apply rN16 | apply Kd.R_drew)); exact Kd.R_mono HO129.out (fun _ hk => by first | exact hk.2 | trivial | simp_all)), HO_114001.out, BK110.out, BK113.out, HI0.out, HK.out, HB.out⟩)
     ·skip
      refine bs_ 5 #[.int .i64 0, .int .i64 0, .int .i64 0, .int .i64 0, .int .i64 0] 33 ?_
      intro gb134 hg w30 hbox hb
      replace HO_114001 := Aside0.mk (rB16 (Kd.R_elderB HO_114001.out gb134 (Nat.le_of_eq hg.symm)) hb)
      replace HO124 := Aside0.mk (rB16 HO124.out hb)
      replace HB := Aside0.mk (below_step HB.out hb)
      have BK134 := Aside0.mk (hbox)
      have GW134 := Aside0.mk ((by rw [hg]; exact (keep_size (w := w) (g := g) (row := none) HK.out) : w.heap.size ≤ gb134))
      have GE134 := Aside0.mk ((Nat.le_trans HW0.out (by rw [hg]; exact (keep_size (w := w) (g := g) (row := none) HK.out) : w.heap.size ≤ gb134) : w0.heap.size ≤ gb134))
      replace HK := Aside0.mk (KeepBut.trans HK.out (KeepBut.of_below hb g none) (.inl rfl))
      have NB110_134 := Aside0.mk (nl_ BK110.out hg)
      have NB134_110 := Aside0.mk (nm_ BK110.out hg)
      replace BK110 := kb_ BK110 hb
      have NB113_134 := Aside0.mk (nl_ BK113.out hg)
      have NB134_113 := Aside0.mk (nm_ BK113.out hg)
      replace BK113 := kb_ BK113 hb
      have NB0_134 := Aside0.mk ((by rw [hg]; exact Nat.ne_of_lt (IsS44.lt (show IsS44 w0 _ g s0_0 t126 from ni44_16 HI0.out)) : g ≠ gb134))
      have NB134_0 := Aside0.mk ((by rw [hg]; exact Nat.ne_of_gt (IsS44.lt (show IsS44 w0 _ g s0_0 t126 from ni44_16 HI0.out)) : gb134 ≠ g))
      replace HI0 := Aside0.mk (IsS44.below HI0.out hb)
      clear hb hbox hg
      refine hK.out _ _ ⟨ct_ BK113.out 0, ct_ BK113.out 1⟩ (fun hHeld => ?_)
      clear hK K
      refine nm1_ (some 5) ?_
      exact norm_ nn_ (hJ3_7_10_11_12_19 (v123, gb134) _ ⟨hHeld, HO124.out, (by (with_reducible repeat (first | apply rA16 | apply rN16 | apply Kd.R_drew)); exact Kd.R_mono HO_114001.out (fun _ hk => by first | exact hk.2 | trivial | simp_all)), BK110.out, BK113.out, BK134.out, GW134.out, GE134.out, NB0_134.out, NB134_0.out, NB110_134.out, NB134_110.out, NB113_134.out, NB134_113.out, HI0.out, HK.out, HB.out⟩)
    intro hJ3_7_10_11_12
    refine join_ (σ := Value × Value) 6 z16_9 (fun s_ => [(19, .int .i64 t116), (23, .int .i64 t118), (26, .int .i64 t120), (27, s_.1), (30, s_.2)]) (fun s_ w' => (w'.cell? ⟨gb113, 0, none⟩ = some (.int .i64 (wrap64 (2 + t111))) ∧ w'.cell? ⟨gb113, 1, none⟩ = some (u114001)) ∧ (Kd.R (Kd.int .i64) 3 w' w.heap.size (fun k_ => some k_ ≠ (s_.2 : Value).ownBlock) s_.1 y122) ∧ (Kd.R (Kd.int .i64) 3 w' w.heap.size (fun k_ => some k_ ≠ (s_.1 : Value).ownBlock) s_.2 y127) ∧ (Kd.R k33 33 w' w.heap.size (fun _ => True) u114001 x114001_1) ∧ (w'.heap[gb110]? = some (.cells #[.int .i64 0, .slice none 0 0] 25 (0, 0))) ∧ (w'.heap[gb113]? = some (.cells #[.int .i64 (wrap64 (2 + t111)), u114001] 25 (0, 0))) ∧ (IsS44 w0 w' g s0_0 t121) ∧ (KeepBut w w' g none) ∧ (Below w0.heap.size w0 w')) ?_ ?_
    ·skip
     rintro ⟨v123, v128⟩ w29 ⟨hS_, h0_, h1_, h2_, h3_, h4_, h5_, h6_, h7_⟩
     have HO124 : Aside0 (Kd.R (Kd.int .i64) 3 w29 w.heap.size (fun k_ => some k_ ≠ (v128 : Value).ownBlock) v123 y122) := ⟨h0_⟩
     have HO129 : Aside0 (Kd.R (Kd.int .i64) 3 w29 w.heap.size (fun k_ => some k_ ≠ (v123 : Value).ownBlock) v128 y127) := ⟨h1_⟩
     replace HO_114001 : Aside0 (Kd.R k33 33 w29 w.heap.size (fun _ => True) u114001 x114001_1) := ⟨h2_⟩
     replace BK110 : Aside0 (w29.heap[gb110]? = some (.cells #[.int .i64 0, .slice none 0 0] 25 (0, 0))) := ⟨h3_⟩
     replace BK113 : Aside0 (w29.heap[gb113]? = some (.cells #[.int .i64 (wrap64 (2 + t111)), u114001] 25 (0, 0))) := ⟨h4_⟩
     replace HI0 : Aside0 (IsS44 w0 w29 g s0_0 t121) := ⟨h5_⟩
     replace HK : Aside0 (KeepBut w w29 g none) := ⟨h6_⟩
     replace HB : Aside0 (Below w0.heap.size w0 w29) := ⟨h7_⟩
     clear h0_ h1_ h2_ h3_ h4_ h5_ h6_ h7_
     have hHeld : w29.cell? ⟨gb113, 0, none⟩ = some (.int .i64 (wrap64 (2 + t111))) ∧ w29.cell? ⟨gb113, 1, none⟩ = some (u114001) := hS_
     obtain ⟨Ao30, co30, eo30⟩ := Kd.R_slice HO124.out
     (first | subst eo30 | (injection eo30 with f1_ f2_ f3_; have f4_ := f1_.symm; have f5_ := f3_.symm; clear f1_ f2_ f3_; subst f4_; subst f5_))
     refine nm2_ ?_
     refine two_ (i := 12) (j := 19) (Ni := some 28) (Nj := some 5) z16_5 z16_7 rfl rfl rfl rfl (two_of HT_.out (by kernel_rfl)) (by decide) (by decide) (fun K hK => ?_) (fun K hK => ?_)
     ·skip
      refine go_ Try.func18 #[.pointer (some ⟨g, 0, none⟩), .slice Ao30 y122.length co30] ?_
      with_reducible refine (spec_l30Rd_one.calls k1 g s0_0 t121 _ _ y122 t125 t126 w0 _ ?side1 ?side2 ?side3 ?side4 ?side5 A15.out).mono ?_
      (case side1 => exact HI0.out)
      (case side2 => exact HB.out)
      (case side3 => exact nc_ (Kd.R_reads' HO124.out).2.2)
      (case side4 => exact (Kd.R_reads' HO124.out).2.1)
      (case side5 => exact far_slice (IsS44.own_ne HI0.out HO124.out (by decide)))
      rintro e w31 ⟨rfl, hi, hb, hk⟩
      refine ⟨_, rfl, ?_⟩
      replace HO_114001 := Aside0.mk (Kd.R_mono (Kd.R_keep (IsS44.apart (show IsS44 w0 _ g s0_0 t121 from ni44_16 HI0.out) HO_114001.out (by decide)) hk (fun _ h => h.2)) (fun _ h => h.1))
      replace BK110 := kk_ BK110 hk NB110_0
      replace BK113 := kk_ BK113 hk NB113_0
      replace HO124 := Aside0.mk (Kd.R_mono (Kd.R_keep (IsS44.apart (show IsS44 w0 _ g s0_0 t121 from ni44_16 HI0.out) HO124.out (by decide)) hk (fun _ h => h.2)) (fun _ h => h.1))
      replace HO129 := Aside0.mk (Kd.R_mono (Kd.R_keep (IsS44.apart (show IsS44 w0 _ g s0_0 t121 from ni44_16 HI0.out) HO129.out (by decide)) hk (fun _ h => h.2)) (fun _ h => h.1))
      replace HK := Aside0.mk (KeepBut.trans HK.out hk (.inl rfl))
      replace HB := Aside0.mk (hb)
      replace HI0 := Aside0.mk (hi)
      (try clear hb)
      (try clear hb2)
      (try clear hk)
      (try clear hi)
      refine hK.out _ _ ⟨ct_ BK113.out 0, ct_ BK113.out 1⟩ (fun hHeld => ?_)
      clear hK K
      refine nm1_ (some 28) ?_
      exact norm_ nn_ (hJ3_7_10_11_12_14 (.slice Ao30 y122.length co30, v128) _ ⟨hHeld, HO124.out, HO129.out, HO_114001.out, BK110.out, BK113.out, HI0.out, HK.out, HB.out⟩)
     ·skip
      refine bs_ 5 #[.int .i64 0, .int .i64 0, .int .i64 0, .int .i64 0, .int .i64 0] 33 ?_
      intro gb134 hg w30 hbox hb
      replace HO_114001 := Aside0.mk (rB16 (Kd.R_elderB HO_114001.out gb134 (Nat.le_of_eq hg.symm)) hb)
      replace HO124 := Aside0.mk (rB16 HO124.out hb)
      replace HO129 := Aside0.mk (rB16 HO129.out hb)
      replace HB := Aside0.mk (below_step HB.out hb)
      have BK134 := Aside0.mk (hbox)
      have GW134 := Aside0.mk ((by rw [hg]; exact (keep_size (w := w) (g := g) (row := none) HK.out) : w.heap.size ≤ gb134))
      have GE134 := Aside0.mk ((Nat.le_trans HW0.out (by rw [hg]; exact (keep_size (w := w) (g := g) (row := none) HK.out) : w.heap.size ≤ gb134) : w0.heap.size ≤ gb134))
      replace HK := Aside0.mk (KeepBut.trans HK.out (KeepBut.of_below hb g none) (.inl rfl))
      have NB110_134 := Aside0.mk (nl_ BK110.out hg)
      have NB134_110 := Aside0.mk (nm_ BK110.out hg)
      replace BK110 := kb_ BK110 hb
      have NB113_134 := Aside0.mk (nl_ BK113.out hg)
      have NB134_113 := Aside0.mk (nm_ BK113.out hg)
      replace BK113 := kb_ BK113 hb
      have NB0_134 := Aside0.mk ((by rw [hg]; exact Nat.ne_of_lt (IsS44.lt (show IsS44 w0 _ g s0_0 t121 from ni44_16 HI0.out)) : g ≠ gb134))
      have NB134_0 := Aside0.mk ((by rw [hg]; exact Nat.ne_of_gt (IsS44.lt (show IsS44 w0 _ g s0_0 t121 from ni44_16 HI0.out)) : gb134 ≠ g))
      replace HI0 := Aside0.mk (IsS44.below HI0.out hb)
      clear hb hbox hg
      refine hK.out _ _ ⟨ct_ BK113.out 0, ct_ BK113.out 1⟩ (fun hHeld => ?_)
      clear hK K
      refine nm1_ (some 5) ?_
      exact norm_ nn_ (hJ3_7_10_11_14_19 ((.slice Ao30 y122.length co30), v128, gb134) _ ⟨hHeld, HO124.out, HO129.out, (by (with_reducible repeat (first | apply rA16 | apply rN16 | apply Kd.R_drew)); exact Kd.R_mono HO_114001.out (fun _ hk => by first | exact hk.2 | trivial | simp_all)), BK110.out, BK113.out, BK134.out, GW134.out, GE134.out, NB0_134.out, NB134_0.out, NB110_134.out, NB134_110.out, NB113_134.out, NB134_113.out, HI0.out, HK.out, HB.out⟩)
    intro hJ3_7_10_11_14
    refine join_ (σ := Value × Nat) 6 z16_10 (fun s_ => [(19, .int .i64 t116), (23, .int .i64 t118), (26, .int .i64 t120), (27, s_.1), (5, .pointer (some ⟨s_.2, 0, none⟩))]) (fun s_ w' => (w'.cell? ⟨gb113, 0, none⟩ = some (.int .i64 (wrap64 (2 + t111))) ∧ w'.cell? ⟨gb113, 1, none⟩ = some (u114001)) ∧ (Kd.R (Kd.int .i64) 3 w' w.heap.size (fun _ => True) s_.1 y122) ∧ (Kd.R k33 33 w' w.heap.size (fun k_ => k_ ≠ s_.2) u114001 x114001_1) ∧ (w'.heap[gb110]? = some (.cells #[.int .i64 0, .slice none 0 0] 25 (0, 0))) ∧ (w'.heap[gb113]? = some (.cells #[.int .i64 (wrap64 (2 + t111)), u114001] 25 (0, 0))) ∧ (w'.heap[s_.2]? = some (.cells #[.int .i64 0, .int .i64 0, .int .i64 0, .int .i64 0, .int .i64 0] 33 (0, 0))) ∧ (w.heap.size ≤ s_.2) ∧ (w0.heap.size ≤ s_.2) ∧ (g ≠ s_.2) ∧ (s_.2 ≠ g) ∧ (gb110 ≠ s_.2) ∧ (s_.2 ≠ gb110) ∧ (gb113 ≠ s_.2) ∧ (s_.2 ≠ gb113) ∧ (IsS44 w0 w' g s0_0 t121) ∧ (KeepBut w w' g none) ∧ (Below w0.heap.size w0 w')) ?_ ?_
    ·skip
     rintro ⟨v123, gb134⟩ w28 ⟨hS_, h0_, h1_, h2_, h3_, h4_, h5_, h6_, h7_, h8_, h9_, h10_, h11_, h12_, h13_, h14_, h15_⟩
     have HO124 : Aside0 (Kd.R (Kd.int .i64) 3 w28 w.heap.size (fun _ => True) v123 y122) := ⟨h0_⟩
     replace HO_114001 : Aside0 (Kd.R k33 33 w28 w.heap.size (fun k_ => k_ ≠ gb134) u114001 x114001_1) := ⟨h1_⟩
     replace BK110 : Aside0 (w28.heap[gb110]? = some (.cells #[.int .i64 0, .slice none 0 0] 25 (0, 0))) := ⟨h2_⟩
     replace BK113 : Aside0 (w28.heap[gb113]? = some (.cells #[.int .i64 (wrap64 (2 + t111)), u114001] 25 (0, 0))) := ⟨h3_⟩
     have BK134 : Aside0 (w28.heap[gb134]? = some (.cells #[.int .i64 0, .int .i64 0, .int .i64 0, .int .i64 0, .int .i64 0] 33 (0, 0))) := ⟨h4_⟩
     have GW134 : Aside0 (w.heap.size ≤ gb134) := ⟨h5_⟩
     have GE134 : Aside0 (w0.heap.size ≤ gb134) := ⟨h6_⟩
     have NB0_134 : Aside0 (g ≠ gb134) := ⟨h7_⟩
     have NB134_0 : Aside0 (gb134 ≠ g) := ⟨h8_⟩
     have NB110_134 : Aside0 (gb110 ≠ gb134) := ⟨h9_⟩
     have NB134_110 : Aside0 (gb134 ≠ gb110) := ⟨h10_⟩
     have NB113_134 : Aside0 (gb113 ≠ gb134) := ⟨h11_⟩
     have NB134_113 : Aside0 (gb134 ≠ gb113) := ⟨h12_⟩
     replace HI0 : Aside0 (IsS44 w0 w28 g s0_0 t121) := ⟨h13_⟩
     replace HK : Aside0 (KeepBut w w28 g none) := ⟨h14_⟩
     replace HB : Aside0 (Below w0.heap.size w0 w28) := ⟨h15_⟩
     clear h0_ h1_ h2_ h3_ h4_ h5_ h6_ h7_ h8_ h9_ h10_ h11_ h12_ h13_ h14_ h15_
     have hHeld : w28.cell? ⟨gb113, 0, none⟩ = some (.int .i64 (wrap64 (2 + t111))) ∧ w28.cell? ⟨gb113, 1, none⟩ = some (u114001) := hS_
     obtain ⟨Ao29, co29, eo29⟩ := Kd.R_slice HO124.out
     (first | subst eo29 | (injection eo29 with f1_ f2_ f3_; have f4_ := f1_.symm; have f5_ := f3_.symm; clear f1_ f2_ f3_; subst f4_; subst f5_))
     refine nm2_ ?_
     refine two_ (i := 12) (j := 14) (Ni := some 28) (Nj := some 30) z16_6 z16_7 rfl rfl rfl rfl (two_of HT_.out (by kernel_rfl)) (by decide) (by decide) (fun K hK => ?_) (fun K hK => ?_)
     ·skip
      refine go_ Try.func18 #[.pointer (some ⟨g, 0, none⟩), .slice Ao29 y122.length co29] ?_
      with_reducible refine (spec_l30Rd_one.calls k1 g s0_0 t121 _ _ y122 t125 t126 w0 _ ?side1 ?side2 ?side3 ?side4 ?side5 A15.out).mono ?_
      (case side1 => exact HI0.out)
      (case side2 => exact HB.out)
      (case side3 => exact nc_ (Kd.R_reads' HO124.out).2.2)
      (case side4 => exact (Kd.R_reads' HO124.out).2.1)
      (case side5 => exact far_slice (IsS44.own_ne HI0.out HO124.out (by decide)))
      rintro e w30 ⟨rfl, hi, hb, hk⟩
      refine ⟨_, rfl, ?_⟩
      replace HO_114001 := Aside0.mk (Kd.R_mono (Kd.R_keep (IsS44.apart (show IsS44 w0 _ g s0_0 t121 from ni44_16 HI0.out) HO_114001.out (by decide)) hk (fun _ h => h.2)) (fun _ h => h.1))
      replace BK110 := kk_ BK110 hk NB110_0
      replace BK113 := kk_ BK113 hk NB113_0
      replace HO124 := Aside0.mk (Kd.R_mono (Kd.R_keep (IsS44.apart (show IsS44 w0 _ g s0_0 t121 from ni44_16 HI0.out) HO124.out (by decide)) hk (fun _ h => h.2)) (fun _ h => h.1))
      replace BK134 := kk_ BK134 hk NB134_0
      replace HK := Aside0.mk (KeepBut.trans HK.out hk (.inl rfl))
      replace HB := Aside0.mk (hb)
      replace HI0 := Aside0.mk (hi)
      (try clear hb)
      (try clear hb2)
      (try clear hk)
      (try clear hi)
      refine hK.out _ _ ⟨ct_ BK113.out 0, ct_ BK113.out 1⟩ (fun hHeld => ?_)
      clear hK K
      refine nm1_ (some 28) ?_
      exact norm_ nn_ (hJ3_7_10_11_12_19 (.slice Ao29 y122.length co29, gb134) _ ⟨hHeld, HO124.out, HO_114001.out, BK110.out, BK113.out, BK134.out, GW134.out, GE134.out, NB0_134.out, NB134_0.out, NB110_134.out, NB134_110.out, NB113_134.out, NB134_113.out, HI0.out, HK.out, HB.out⟩)
     ·skip
      refine ls_ 30 3 [0, 0, 3, 8] [.int .i64 0, .int .i64 0, .int .i64 3, .int .i64 8] ?_
      intro v128 w29 ho30 hb hg_ hnew_
      clear hg_ hnew_
      (first | rw [← Ny127.out] at ho30 | (simp only [Int.reduceToNat] at ho30; rw [← Ny127.out] at ho30))
      replace HO_114001 := Aside0.mk (rB16 HO_114001.out hb)
      have HO129 := Aside0.mk (Kd.R_lower (Kd.R_new' ho30 (Kd.R_lt HO124.out)) (keep_size (w := w) (g := g) (row := none) HK.out))
      replace HO124 := Aside0.mk (Kd.R_elder' HO124.out (Kd.R_base ho30) hb)
      replace BK110 := kb_ BK110 hb
      replace BK113 := kb_ BK113 hb
      replace HI0 := Aside0.mk (IsS44.below HI0.out hb)
      replace BK134 := kb_ BK134 hb
      replace HK := Aside0.mk (KeepBut.trans HK.out (KeepBut.of_below hb g none) (.inl rfl))
      replace HB := Aside0.mk (below_step HB.out hb)
      clear hb ho30
      refine hK.out _ _ ⟨ct_ BK113.out 0, ct_ BK113.out 1⟩ (fun hHeld => ?_)
      clear hK K
      refine nm1_ (some 30) ?_
      exact norm_ nn_ (hJ3_7_10_11_14_19 ((.slice Ao29 y122.length co29), v128, gb134) _ ⟨hHeld, (by (with_reducible repeat (first | apply rA16 | apply rN16 | apply Kd.R_drew)); exact Kd.R_mono HO124.out (fun _ hk => by first | exact hk.2 | trivial | simp_all)), (by (with_reducible repeat (first | apply rA16 | apply rN16 | apply Kd.R_drew)); exact Kd.R_mono HO129.out (fun _ hk => by first | exact hk.2 | trivial | simp_all)), HO_114001.out, BK110.out, BK113.out, BK134.out, GW134.out, GE134.out, NB0_134.out, NB134_0.out, NB110_134.out, NB134_110.out, NB113_134.out, NB134_113.out, HI0.out, HK.out, HB.out⟩)
    intro hJ3_7_10_11_19
    refine join_ (σ := Value × Nat) 6 z16_11 (fun s_ => [(19, .int .i64 t116), (23, .int .i64 t118), (26, .int .i64 t120), (30, s_.1), (5, .pointer (some ⟨s_.2, 0, none⟩))]) (fun s_ w' => (w'.cell? ⟨gb113, 0, none⟩ = some (.int .i64 (wrap64 (2 + t111))) ∧ w'.cell? ⟨gb113, 1, none⟩ = some (u114001)) ∧ (Kd.R (Kd.int .i64) 3 w' w.heap.size (fun _ => True) s_.1 y127) ∧ (Kd.R k33 33 w' w.heap.size (fun k_ => k_ ≠ s_.2) u114001 x114001_1) ∧ (w'.heap[gb110]? = some (.cells #[.int .i64 0, .slice none 0 0] 25 (0, 0))) ∧ (w'.heap[gb113]? = some (.cells #[.int .i64 (wrap64 (2 + t111)), u114001] 25 (0, 0))) ∧ (w'.heap[s_.2]? = some (.cells #[.int .i64 0, .int .i64 0, .int .i64 0, .int .i64 0, .int .i64 0] 33 (0, 0))) ∧ (w.heap.size ≤ s_.2) ∧ (w0.heap.size ≤ s_.2) ∧ (g ≠ s_.2) ∧ (s_.2 ≠ g) ∧ (gb110 ≠ s_.2) ∧ (s_.2 ≠ gb110) ∧ (gb113 ≠ s_.2) ∧ (s_.2 ≠ gb113) ∧ (IsS44 w0 w' g s0_0 t121) ∧ (KeepBut w w' g none) ∧ (Below w0.heap.size w0 w')) ?_ ?_
    ·skip
     rintro ⟨v128, gb134⟩ w28 ⟨hS_, h0_, h1_, h2_, h3_, h4_, h5_, h6_, h7_, h8_, h9_, h10_, h11_, h12_, h13_, h14_, h15_⟩
     have HO129 : Aside0 (Kd.R (Kd.int .i64) 3 w28 w.heap.size (fun _ => True) v128 y127) := ⟨h0_⟩
     replace HO_114001 : Aside0 (Kd.R k33 33 w28 w.heap.size (fun k_ => k_ ≠ gb134) u114001 x114001_1) := ⟨h1_⟩
     replace BK110 : Aside0 (w28.heap[gb110]? = some (.cells #[.int .i64 0, .slice none 0 0] 25 (0, 0))) := ⟨h2_⟩
     replace BK113 : Aside0 (w28.heap[gb113]? = some (.cells #[.int .i64 (wrap64 (2 + t111)), u114001] 25 (0, 0))) := ⟨h3_⟩
     have BK134 : Aside0 (w28.heap[gb134]? = some (.cells #[.int .i64 0, .int .i64 0, .int .i64 0, .int .i64 0, .int .i64 0] 33 (0, 0))) := ⟨h4_⟩
     have GW134 : Aside0 (w.heap.size ≤ gb134) := ⟨h5_⟩
     have GE134 : Aside0 (w0.heap.size ≤ gb134) := ⟨h6_⟩
     have NB0_134 : Aside0 (g ≠ gb134) := ⟨h7_⟩
     have NB134_0 : Aside0 (gb134 ≠ g) := ⟨h8_⟩
     have NB110_134 : Aside0 (gb110 ≠ gb134) := ⟨h9_⟩
     have NB134_110 : Aside0 (gb134 ≠ gb110) := ⟨h10_⟩
     have NB113_134 : Aside0 (gb113 ≠ gb134) := ⟨h11_⟩
     have NB134_113 : Aside0 (gb134 ≠ gb113) := ⟨h12_⟩
     replace HI0 : Aside0 (IsS44 w0 w28 g s0_0 t121) := ⟨h13_⟩
     replace HK : Aside0 (KeepBut w w28 g none) := ⟨h14_⟩
     replace HB : Aside0 (Below w0.heap.size w0 w28) := ⟨h15_⟩
     clear h0_ h1_ h2_ h3_ h4_ h5_ h6_ h7_ h8_ h9_ h10_ h11_ h12_ h13_ h14_ h15_
     have hHeld : w28.cell? ⟨gb113, 0, none⟩ = some (.int .i64 (wrap64 (2 + t111))) ∧ w28.cell? ⟨gb113, 1, none⟩ = some (u114001) := hS_
     refine nm2_ ?_
     refine one_ (i := 11) (N := some 27) z16_7 rfl rfl (one_of HT_.out (by kernel_rfl)) (by decide) (fun K hK => ?_)
     refine ls_ 27 3 [0, 1, 2, 5, 9, t120] [.int .i64 0, .int .i64 1, .int .i64 2, .int .i64 5, .int .i64 9, .int .i64 t120] ?_
     intro v123 w29 ho30 hb hg_ hnew_
     clear hg_ hnew_
     (first | rw [← Ny122.out] at ho30 | (simp only [Int.reduceToNat] at ho30; rw [← Ny122.out] at ho30))
     replace HO_114001 := Aside0.mk (rB16 HO_114001.out hb)
     have HO124 := Aside0.mk (Kd.R_lower (Kd.R_new' ho30 (Kd.R_lt HO129.out)) (keep_size (w := w) (g := g) (row := none) HK.out))
     replace HO129 := Aside0.mk (Kd.R_elder' HO129.out (Kd.R_base ho30) hb)
     replace BK110 := kb_ BK110 hb
     replace BK113 := kb_ BK113 hb
     replace HI0 := Aside0.mk (IsS44.below HI0.out hb)
     replace BK134 := kb_ BK134 hb
     replace HK := Aside0.mk (KeepBut.trans HK.out (KeepBut.of_below hb g none) (.inl rfl))
     replace HB := Aside0.mk (below_step HB.out hb)
     clear hb ho30
     refine hK.out _ _ ⟨ct_ BK113.out 0, ct_ BK113.out 1⟩ (fun hHeld => ?_)
     clear hK K
     refine nm1_ (some 27) ?_
     exact norm_ nn_ (hJ3_7_10_11_14_19 (v123, v128, gb134) _ ⟨hHeld, (by (with_reducible repeat (first | apply rA16 | apply rN16 | apply Kd.R_drew)); exact Kd.R_mono HO124.out (fun _ hk => by first | exact hk.2 | trivial | simp_all)), (by (with_reducible repeat (first | apply rA16 | apply rN16 | apply Kd.R_drew)); exact Kd.R_mono HO129.out (fun _ hk => by first | exact hk.2 | trivial | simp_all)), HO_114001.out, BK110.out, BK113.out, BK134.out, GW134.out, GE134.out, NB0_134.out, NB134_0.out, NB110_134.out, NB134_110.out, NB113_134.out, NB134_113.out, HI0.out, HK.out, HB.out⟩)
    intro hJ3_7_10_14_19
    refine join_ (σ := Value) 7 z16_12 (fun s_ => [(19, .int .i64 t116), (23, .int .i64 t118), (26, .int .i64 t120), (27, s_)]) (fun s_ w' => (w'.cell? ⟨gb113, 0, none⟩ = some (.int .i64 (wrap64 (2 + t111))) ∧ w'.cell? ⟨gb113, 1, none⟩ = some (u114001)) ∧ (Kd.R (Kd.int .i64) 3 w' w.heap.size (fun _ => True) s_ y122) ∧ (Kd.R k33 33 w' w.heap.size (fun _ => True) u114001 x114001_1) ∧ (w'.heap[gb110]? = some (.cells #[.int .i64 0, .slice none 0 0] 25 (0, 0))) ∧ (w'.heap[gb113]? = some (.cells #[.int .i64 (wrap64 (2 + t111)), u114001] 25 (0, 0))) ∧ (IsS44 w0 w' g s0_0 t121) ∧ (KeepBut w w' g none) ∧ (Below w0.heap.size w0 w')) ?_ ?_
    ·skip
     rintro v123 w27 ⟨hS_, h0_, h1_, h2_, h3_, h4_, h5_, h6_⟩
     have HO124 : Aside0 (Kd.R (Kd.int .i64) 3 w27 w.heap.size (fun _ => True) v123 y122) := ⟨h0_⟩
     replace HO_114001 : Aside0 (Kd.R k33 33 w27 w.heap.size (fun _ => True) u114001 x114001_1) := ⟨h1_⟩
     replace BK110 : Aside0 (w27.heap[gb110]? = some (.cells #[.int .i64 0, .slice none 0 0] 25 (0, 0))) := ⟨h2_⟩
     replace BK113 : Aside0 (w27.heap[gb113]? = some (.cells #[.int .i64 (wrap64 (2 + t111)), u114001] 25 (0, 0))) := ⟨h3_⟩
     replace HI0 : Aside0 (IsS44 w0 w27 g s0_0 t121) := ⟨h4_⟩
     replace HK : Aside0 (KeepBut w w27 g none) := ⟨h5_⟩
     replace HB : Aside0 (Below w0.heap.size w0 w27) := ⟨h6_⟩
     clear h0_ h1_ h2_ h3_ h4_ h5_ h6_
     have hHeld : w27.cell? ⟨gb113, 0, none⟩ = some (.int .i64 (wrap64 (2 + t111))) ∧ w27.cell? ⟨gb113, 1, none⟩ = some (u114001) := hS_
     obtain ⟨Ao28, co28, eo28⟩ := Kd.R_slice HO124.out
     (first | subst eo28 | (injection eo28 with f1_ f2_ f3_; have f4_ := f1_.symm; have f5_ := f3_.symm; clear f1_ f2_ f3_; subst f4_; subst f5_))
     refine nm2_ ?_
     refine three_ (i := 12) (j := 14) (k := 19) (Ni := some 28) (Nj := some 30) (Nk := some 5) z16_8 z16_9 z16_10 rfl rfl rfl rfl rfl rfl (three_of HT_.out (by kernel_rfl)) (by decide) (by decide) (by decide) (fun K hK => ?_) (fun K hK => ?_) (fun K hK => ?_)
     ·skip
      refine go_ Try.func18 #[.pointer (some ⟨g, 0, none⟩), .slice Ao28 y122.length co28] ?_
      with_reducible refine (spec_l30Rd_one.calls k1 g s0_0 t121 _ _ y122 t125 t126 w0 _ ?side1 ?side2 ?side3 ?side4 ?side5 A15.out).mono ?_
      (case side1 => exact HI0.out)
      (case side2 => exact HB.out)
      (case side3 => exact nc_ (Kd.R_reads' HO124.out).2.2)
      (case side4 => exact (Kd.R_reads' HO124.out).2.1)
      (case side5 => exact far_slice (IsS44.own_ne HI0.out HO124.out (by decide)))
      rintro e w29 ⟨rfl, hi, hb, hk⟩
      refine ⟨_, rfl, ?_⟩
      replace HO_114001 := Aside0.mk (Kd.R_mono (Kd.R_keep (IsS44.apart (show IsS44 w0 _ g s0_0 t121 from ni44_16 HI0.out) HO_114001.out (by decide)) hk (fun _ h => h.2)) (fun _ h => h.1))
      replace BK110 := kk_ BK110 hk NB110_0
      replace BK113 := kk_ BK113 hk NB113_0
      replace HO124 := Aside0.mk (Kd.R_mono (Kd.R_keep (IsS44.apart (show IsS44 w0 _ g s0_0 t121 from ni44_16 HI0.out) HO124.out (by decide)) hk (fun _ h => h.2)) (fun _ h => h.1))
      replace HK := Aside0.mk (KeepBut.trans HK.out hk (.inl rfl))
      replace HB := Aside0.mk (hb)
      replace HI0 := Aside0.mk (hi)
      (try clear hb)
      (try clear hb2)
      (try clear hk)
      (try clear hi)
      refine hK.out _ _ ⟨ct_ BK113.out 0, ct_ BK113.out 1⟩ (fun hHeld => ?_)
      clear hK K
      refine nm1_ (some 28) ?_
      exact norm_ nn_ (hJ3_7_10_11_12 (.slice Ao28 y122.length co28) _ ⟨hHeld, HO124.out, HO_114001.out, BK110.out, BK113.out, HI0.out, HK.out, HB.out⟩)
     ·skip
      refine ls_ 30 3 [0, 0, 3, 8] [.int .i64 0, .int .i64 0, .int .i64 3, .int .i64 8] ?_
      intro v128 w28 ho29 hb hg_ hnew_
      clear hg_ hnew_
      (first | rw [← Ny127.out] at ho29 | (simp only [Int.reduceToNat] at ho29; rw [← Ny127.out] at ho29))
      replace HO_114001 := Aside0.mk (rB16 HO_114001.out hb)
      have HO129 := Aside0.mk (Kd.R_lower (Kd.R_new' ho29 (Kd.R_lt HO124.out)) (keep_size (w := w) (g := g) (row := none) HK.out))
      replace HO124 := Aside0.mk (Kd.R_elder' HO124.out (Kd.R_base ho29) hb)
      replace BK110 := kb_ BK110 hb
      replace BK113 := kb_ BK113 hb
      replace HI0 := Aside0.mk (IsS44.below HI0.out hb)
      replace HK := Aside0.mk (KeepBut.trans HK.out (KeepBut.of_below hb g none) (.inl rfl))
      replace HB := Aside0.mk (below_step HB.out hb)
      clear hb ho29
      refine hK.out _ _ ⟨ct_ BK113.out 0, ct_ BK113.out 1⟩ (fun hHeld => ?_)
      clear hK K
      refine nm1_ (some 30) ?_
      exact norm_ nn_ (hJ3_7_10_11_14 ((.slice Ao28 y122.length co28), v128) _ ⟨hHeld, (by (with_reducible repeat (first | apply rA16 | apply rN16 | apply Kd.R_drew)); exact Kd.R_mono HO124.out (fun _ hk => by first | exact hk.2 | trivial | simp_all)), (by (with_reducible repeat (first | apply rA16 | apply rN16 | apply Kd.R_drew)); exact Kd.R_mono HO129.out (fun _ hk => by first | exact hk.2 | trivial | simp_all)), HO_114001.out, BK110.out, BK113.out, HI0.out, HK.out, HB.out⟩)
     ·skip
      refine bs_ 5 #[.int .i64 0, .int .i64 0, .int .i64 0, .int .i64 0, .int .i64 0] 33 ?_
      intro gb134 hg w28 hbox hb
      replace HO_114001 := Aside0.mk (rB16 (Kd.R_elderB HO_114001.out gb134 (Nat.le_of_eq hg.symm)) hb)
      replace HO124 := Aside0.mk (rB16 HO124.out hb)
      replace HB := Aside0.mk (below_step HB.out hb)
      have BK134 := Aside0.mk (hbox)
      have GW134 := Aside0.mk ((by rw [hg]; exact (keep_size (w := w) (g := g) (row := none) HK.out) : w.heap.size ≤ gb134))
      have GE134 := Aside0.mk ((Nat.le_trans HW0.out (by rw [hg]; exact (keep_size (w := w) (g := g) (row := none) HK.out) : w.heap.size ≤ gb134) : w0.heap.size ≤ gb134))
      replace HK := Aside0.mk (KeepBut.trans HK.out (KeepBut.of_below hb g none) (.inl rfl))
      have NB110_134 := Aside0.mk (nl_ BK110.out hg)
      have NB134_110 := Aside0.mk (nm_ BK110.out hg)
      replace BK110 := kb_ BK110 hb
      have NB113_134 := Aside0.mk (nl_ BK113.out hg)
      have NB134_113 := Aside0.mk (nm_ BK113.out hg)
      replace BK113 := kb_ BK113 hb
      have NB0_134 := Aside0.mk ((by rw [hg]; exact Nat.ne_of_lt (IsS44.lt (show IsS44 w0 _ g s0_0 t121 from ni44_16 HI0.out)) : g ≠ gb134))
      have NB134_0 := Aside0.mk ((by rw [hg]; exact Nat.ne_of_gt (IsS44.lt (show IsS44 w0 _ g s0_0 t121 from ni44_16 HI0.out)) : gb134 ≠ g))
      replace HI0 := Aside0.mk (IsS44.below HI0.out hb)
      clear hb hbox hg
      refine hK.out _ _ ⟨ct_ BK113.out 0, ct_ BK113.out 1⟩ (fun hHeld => ?_)
      clear hK K
      refine nm1_ (some 5) ?_
      exact norm_ nn_ (hJ3_7_10_11_19 ((.slice Ao28 y122.length co28), gb134) _ ⟨hHeld, HO124.out, (by (with_reducible repeat (first | apply rA16 | apply rN16 | apply Kd.R_drew)); exact Kd.R_mono HO_114001.out (fun _ hk => by first | exact hk.2 | trivial | simp_all)), BK110.out, BK113.out, BK134.out, GW134.out, GE134.out, NB0_134.out, NB134_0.out, NB110_134.out, NB134_110.out, NB113_134.out, NB134_113.out, HI0.out, HK.out, HB.out⟩)
    intro hJ3_7_10_11
    refine join_ (σ := Value) 7 z16_13 (fun s_ => [(19, .int .i64 t116), (23, .int .i64 t118), (26, .int .i64 t120), (30, s_)]) (fun s_ w' => (w'.cell? ⟨gb113, 0, none⟩ = some (.int .i64 (wrap64 (2 + t111))) ∧ w'.cell? ⟨gb113, 1, none⟩ = some (u114001)) ∧ (Kd.R (Kd.int .i64) 3 w' w.heap.size (fun _ => True) s_ y127) ∧ (Kd.R k33 33 w' w.heap.size (fun _ => True) u114001 x114001_1) ∧ (w'.heap[gb110]? = some (.cells #[.int .i64 0, .slice none 0 0] 25 (0, 0))) ∧ (w'.heap[gb113]? = some (.cells #[.int .i64 (wrap64 (2 + t111)), u114001] 25 (0, 0))) ∧ (IsS44 w0 w' g s0_0 t121) ∧ (KeepBut w w' g none) ∧ (Below w0.heap.size w0 w')) ?_ ?_
    ·skip
     rintro v128 w27 ⟨hS_, h0_, h1_, h2_, h3_, h4_, h5_, h6_⟩
     have HO129 : Aside0 (Kd.R (Kd.int .i64) 3 w27 w.heap.size (fun _ => True) v128 y127) := ⟨h0_⟩
     replace HO_114001 : Aside0 (Kd.R k33 33 w27 w.heap.size (fun _ => True) u114001 x114001_1) := ⟨h1_⟩
     replace BK110 : Aside0 (w27.heap[gb110]? = some (.cells #[.int .i64 0, .slice none 0 0] 25 (0, 0))) := ⟨h2_⟩
     replace BK113 : Aside0 (w27.heap[gb113]? = some (.cells #[.int .i64 (wrap64 (2 + t111)), u114001] 25 (0, 0))) := ⟨h3_⟩
     replace HI0 : Aside0 (IsS44 w0 w27 g s0_0 t121) := ⟨h4_⟩
     replace HK : Aside0 (KeepBut w w27 g none) := ⟨h5_⟩
     replace HB : Aside0 (Below w0.heap.size w0 w27) := ⟨h6_⟩
     clear h0_ h1_ h2_ h3_ h4_ h5_ h6_
     have hHeld : w27.cell? ⟨gb113, 0, none⟩ = some (.int .i64 (wrap64 (2 + t111))) ∧ w27.cell? ⟨gb113, 1, none⟩ = some (u114001) := hS_
     refine nm2_ ?_
     refine two_ (i := 11) (j := 19) (Ni := some 27) (Nj := some 5) z16_9 z16_11 rfl rfl rfl rfl (two_of HT_.out (by kernel_rfl)) (by decide) (by decide) (fun K hK => ?_) (fun K hK => ?_)
     ·skip
      refine ls_ 27 3 [0, 1, 2, 5, 9, t120] [.int .i64 0, .int .i64 1, .int .i64 2, .int .i64 5, .int .i64 9, .int .i64 t120] ?_
      intro v123 w28 ho29 hb hg_ hnew_
      clear hg_ hnew_
      (first | rw [← Ny122.out] at ho29 | (simp only [Int.reduceToNat] at ho29; rw [← Ny122.out] at ho29))
      replace HO_114001 := Aside0.mk (rB16 HO_114001.out hb)
      have HO124 := Aside0.mk (Kd.R_lower (Kd.R_new' ho29 (Kd.R_lt HO129.out)) (keep_size (w := w) (g := g) (row := none) HK.out))
      replace HO129 := Aside0.mk (Kd.R_elder' HO129.out (Kd.R_base ho29) hb)
      replace BK110 := kb_ BK110 hb
      replace BK113 := kb_ BK113 hb
      replace HI0 := Aside0.mk (IsS44.below HI0.out hb)
      replace HK := Aside0.mk (KeepBut.trans HK.out (KeepBut.of_below hb g none) (.inl rfl))
      replace HB := Aside0.mk (below_step HB.out hb)
      clear hb ho29
      refine hK.out _ _ ⟨ct_ BK113.out 0, ct_ BK113.out 1⟩ (fun hHeld => ?_)
      clear hK K
      refine nm1_ (some 27) ?_
      exact norm_ nn_ (hJ3_7_10_11_14 (v123, v128) _ ⟨hHeld, (by (with_reducible repeat (first | apply rA16 | apply rN16 | apply Kd.R_drew)); exact Kd.R_mono HO124.out (fun _ hk => by first | exact hk.2 | trivial | simp_all)), (by (with_reducible repeat (first | apply rA16 | apply rN16 | apply Kd.R_drew)); exact Kd.R_mono HO129.out (fun _ hk => by first | exact hk.2 | trivial | simp_all)), HO_114001.out, BK110.out, BK113.out, HI0.out, HK.out, HB.out⟩)
     ·skip
      refine bs_ 5 #[.int .i64 0, .int .i64 0, .int .i64 0, .int .i64 0, .int .i64 0] 33 ?_
      intro gb134 hg w28 hbox hb
      replace HO_114001 := Aside0.mk (rB16 (Kd.R_elderB HO_114001.out gb134 (Nat.le_of_eq hg.symm)) hb)
      replace HO129 := Aside0.mk (rB16 HO129.out hb)
      replace HB := Aside0.mk (below_step HB.out hb)
      have BK134 := Aside0.mk (hbox)
      have GW134 := Aside0.mk ((by rw [hg]; exact (keep_size (w := w) (g := g) (row := none) HK.out) : w.heap.size ≤ gb134))
      have GE134 := Aside0.mk ((Nat.le_trans HW0.out (by rw [hg]; exact (keep_size (w := w) (g := g) (row := none) HK.out) : w.heap.size ≤ gb134) : w0.heap.size ≤ gb134))
      replace HK := Aside0.mk (KeepBut.trans HK.out (KeepBut.of_below hb g none) (.inl rfl))
      have NB110_134 := Aside0.mk (nl_ BK110.out hg)
      have NB134_110 := Aside0.mk (nm_ BK110.out hg)
      replace BK110 := kb_ BK110 hb
      have NB113_134 := Aside0.mk (nl_ BK113.out hg)
      have NB134_113 := Aside0.mk (nm_ BK113.out hg)
      replace BK113 := kb_ BK113 hb
      have NB0_134 := Aside0.mk ((by rw [hg]; exact Nat.ne_of_lt (IsS44.lt (show IsS44 w0 _ g s0_0 t121 from ni44_16 HI0.out)) : g ≠ gb134))
      have NB134_0 := Aside0.mk ((by rw [hg]; exact Nat.ne_of_gt (IsS44.lt (show IsS44 w0 _ g s0_0 t121 from ni44_16 HI0.out)) : gb134 ≠ g))
      replace HI0 := Aside0.mk (IsS44.below HI0.out hb)
      clear hb hbox hg
      refine hK.out _ _ ⟨ct_ BK113.out 0, ct_ BK113.out 1⟩ (fun hHeld => ?_)
      clear hK K
      refine nm1_ (some 5) ?_
      exact norm_ nn_ (hJ3_7_10_14_19 (v128, gb134) _ ⟨hHeld, HO129.out, (by (with_reducible repeat (first | apply rA16 | apply rN16 | apply Kd.R_drew)); exact Kd.R_mono HO_114001.out (fun _ hk => by first | exact hk.2 | trivial | simp_all)), BK110.out, BK113.out, BK134.out, GW134.out, GE134.out, NB0_134.out, NB134_0.out, NB110_134.out, NB134_110.out, NB113_134.out, NB134_113.out, HI0.out, HK.out, HB.out⟩)
    intro hJ3_7_10_14
    refine join_ (σ := Nat) 7 z16_14 (fun s_ => [(19, .int .i64 t116), (23, .int .i64 t118), (26, .int .i64 t120), (5, .pointer (some ⟨s_, 0, none⟩))]) (fun s_ w' => (w'.cell? ⟨gb113, 0, none⟩ = some (.int .i64 (wrap64 (2 + t111))) ∧ w'.cell? ⟨gb113, 1, none⟩ = some (u114001)) ∧ (Kd.R k33 33 w' w.heap.size (fun k_ => k_ ≠ s_) u114001 x114001_1) ∧ (w'.heap[gb110]? = some (.cells #[.int .i64 0, .slice none 0 0] 25 (0, 0))) ∧ (w'.heap[gb113]? = some (.cells #[.int .i64 (wrap64 (2 + t111)), u114001] 25 (0, 0))) ∧ (w'.heap[s_]? = some (.cells #[.int .i64 0, .int .i64 0, .int .i64 0, .int .i64 0, .int .i64 0] 33 (0, 0))) ∧ (w.heap.size ≤ s_) ∧ (w0.heap.size ≤ s_) ∧ (g ≠ s_) ∧ (s_ ≠ g) ∧ (gb110 ≠ s_) ∧ (s_ ≠ gb110) ∧ (gb113 ≠ s_) ∧ (s_ ≠ gb113) ∧ (IsS44 w0 w' g s0_0 t121) ∧ (KeepBut w w' g none) ∧ (Below w0.heap.size w0 w')) ?_ ?_
    ·skip
     rintro gb134 w26 ⟨hS_, h0_, h1_, h2_, h3_, h4_, h5_, h6_, h7_, h8_, h9_, h10_, h11_, h12_, h13_, h14_⟩
     replace HO_114001 : Aside0 (Kd.R k33 33 w26 w.heap.size (fun k_ => k_ ≠ gb134) u114001 x114001_1) := ⟨h0_⟩
     replace BK110 : Aside0 (w26.heap[gb110]? = some (.cells #[.int .i64 0, .slice none 0 0] 25 (0, 0))) := ⟨h1_⟩
     replace BK113 : Aside0 (w26.heap[gb113]? = some (.cells #[.int .i64 (wrap64 (2 + t111)), u114001] 25 (0, 0))) := ⟨h2_⟩
     have BK134 : Aside0 (w26.heap[gb134]? = some (.cells #[.int .i64 0, .int .i64 0, .int .i64 0, .int .i64 0, .int .i64 0] 33 (0, 0))) := ⟨h3_⟩
     have GW134 : Aside0 (w.heap.size ≤ gb134) := ⟨h4_⟩
     have GE134 : Aside0 (w0.heap.size ≤ gb134) := ⟨h5_⟩
     have NB0_134 : Aside0 (g ≠ gb134) := ⟨h6_⟩
     have NB134_0 : Aside0 (gb134 ≠ g) := ⟨h7_⟩
     have NB110_134 : Aside0 (gb110 ≠ gb134) := ⟨h8_⟩
     have NB134_110 : Aside0 (gb134 ≠ gb110) := ⟨h9_⟩
     have NB113_134 : Aside0 (gb113 ≠ gb134) := ⟨h10_⟩
     have NB134_113 : Aside0 (gb134 ≠ gb113) := ⟨h11_⟩
     replace HI0 : Aside0 (IsS44 w0 w26 g s0_0 t121) := ⟨h12_⟩
     replace HK : Aside0 (KeepBut w w26 g none) := ⟨h13_⟩
     replace HB : Aside0 (Below w0.heap.size w0 w26) := ⟨h14_⟩
     clear h0_ h1_ h2_ h3_ h4_ h5_ h6_ h7_ h8_ h9_ h10_ h11_ h12_ h13_ h14_
     have hHeld : w26.cell? ⟨gb113, 0, none⟩ = some (.int .i64 (wrap64 (2 + t111))) ∧ w26.cell? ⟨gb113, 1, none⟩ = some (u114001) := hS_
     refine nm2_ ?_
     refine two_ (i := 11) (j := 14) (Ni := some 27) (Nj := some 30) z16_10 z16_11 rfl rfl rfl rfl (two_of HT_.out (by kernel_rfl)) (by decide) (by decide) (fun K hK => ?_) (fun K hK => ?_)
     ·skip
      refine ls_ 27 3 [0, 1, 2, 5, 9, t120] [.int .i64 0, .int .i64 1, .int .i64 2, .int .i64 5, .int .i64 9, .int .i64 t120] ?_
      intro v123 w27 ho28 hb hg_ hnew_
      clear hg_ hnew_
      (first | rw [← Ny122.out] at ho28 | (simp only [Int.reduceToNat] at ho28; rw [← Ny122.out] at ho28))
      replace HO_114001 := Aside0.mk (rB16 HO_114001.out hb)
      have HO124 := Aside0.mk (Kd.R_lower ho28 (keep_size (w := w) (g := g) (row := none) HK.out))
      replace BK110 := kb_ BK110 hb
      replace BK113 := kb_ BK113 hb
      replace HI0 := Aside0.mk (IsS44.below HI0.out hb)
      replace BK134 := kb_ BK134 hb
      replace HK := Aside0.mk (KeepBut.trans HK.out (KeepBut.of_below hb g none) (.inl rfl))
      replace HB := Aside0.mk (below_step HB.out hb)
      clear hb ho28
      refine hK.out _ _ ⟨ct_ BK113.out 0, ct_ BK113.out 1⟩ (fun hHeld => ?_)
      clear hK K
      refine nm1_ (some 27) ?_
      exact norm_ nn_ (hJ3_7_10_11_19 (v123, gb134) _ ⟨hHeld, HO124.out, HO_114001.out, BK110.out, BK113.out, BK134.out, GW134.out, GE134.out, NB0_134.out, NB134_0.out, NB110_134.out, NB134_110.out, NB113_134.out, NB134_113.out, HI0.out, HK.out, HB.out⟩)
     ·skip
      refine ls_ 30 3 [0, 0, 3, 8] [.int .i64 0, .int .i64 0, .int .i64 3, .int .i64 8] ?_
      intro v128 w27 ho28 hb hg_ hnew_
      clear hg_ hnew_
      (first | rw [← Ny127.out] at ho28 | (simp only [Int.reduceToNat] at ho28; rw [← Ny127.out] at ho28))
      replace HO_114001 := Aside0.mk (rB16 HO_114001.out hb)
      have HO129 := Aside0.mk (Kd.R_lower ho28 (keep_size (w := w) (g := g) (row := none) HK.out))
      replace BK110 := kb_ BK110 hb
      replace BK113 := kb_ BK113 hb
      replace HI0 := Aside0.mk (IsS44.below HI0.out hb)
      replace BK134 := kb_ BK134 hb
      replace HK := Aside0.mk (KeepBut.trans HK.out (KeepBut.of_below hb g none) (.inl rfl))
      replace HB := Aside0.mk (below_step HB.out hb)
      clear hb ho28
      refine hK.out _ _ ⟨ct_ BK113.out 0, ct_ BK113.out 1⟩ (fun hHeld => ?_)
      clear hK K
      refine nm1_ (some 30) ?_
      exact norm_ nn_ (hJ3_7_10_14_19 (v128, gb134) _ ⟨hHeld, HO129.out, HO_114001.out, BK110.out, BK113.out, BK134.out, GW134.out, GE134.out, NB0_134.out, NB134_0.out, NB110_134.out, NB134_110.out, NB113_134.out, NB134_113.out, HI0.out, HK.out, HB.out⟩)
    intro hJ3_7_10_19
    refine join_ (σ := Value × Nat) 7 z16_15 (fun s_ => [(19, .int .i64 t116), (23, .int .i64 t118), (30, s_.1), (5, .pointer (some ⟨s_.2, 0, none⟩))]) (fun s_ w' => (w'.cell? ⟨gb113, 0, none⟩ = some (.int .i64 (wrap64 (2 + t111))) ∧ w'.cell? ⟨gb113, 1, none⟩ = some (u114001)) ∧ (Kd.R (Kd.int .i64) 3 w' w.heap.size (fun _ => True) s_.1 y127) ∧ (Kd.R k33 33 w' w.heap.size (fun k_ => k_ ≠ s_.2) u114001 x114001_1) ∧ (w'.heap[gb110]? = some (.cells #[.int .i64 0, .slice none 0 0] 25 (0, 0))) ∧ (w'.heap[gb113]? = some (.cells #[.int .i64 (wrap64 (2 + t111)), u114001] 25 (0, 0))) ∧ (w'.heap[s_.2]? = some (.cells #[.int .i64 0, .int .i64 0, .int .i64 0, .int .i64 0, .int .i64 0] 33 (0, 0))) ∧ (w.heap.size ≤ s_.2) ∧ (w0.heap.size ≤ s_.2) ∧ (g ≠ s_.2) ∧ (s_.2 ≠ g) ∧ (gb110 ≠ s_.2) ∧ (s_.2 ≠ gb110) ∧ (gb113 ≠ s_.2) ∧ (s_.2 ≠ gb113) ∧ (IsS44 w0 w' g s0_0 t119) ∧ (KeepBut w w' g none) ∧ (Below w0.heap.size w0 w')) ?_ ?_
    ·skip
     rintro ⟨v128, gb134⟩ w27 ⟨hS_, h0_, h1_, h2_, h3_, h4_, h5_, h6_, h7_, h8_, h9_, h10_, h11_, h12_, h13_, h14_, h15_⟩
     have HO129 : Aside0 (Kd.R (Kd.int .i64) 3 w27 w.heap.size (fun _ => True) v128 y127) := ⟨h0_⟩
     replace HO_114001 : Aside0 (Kd.R k33 33 w27 w.heap.size (fun k_ => k_ ≠ gb134) u114001 x114001_1) := ⟨h1_⟩
     replace BK110 : Aside0 (w27.heap[gb110]? = some (.cells #[.int .i64 0, .slice none 0 0] 25 (0, 0))) := ⟨h2_⟩
     replace BK113 : Aside0 (w27.heap[gb113]? = some (.cells #[.int .i64 (wrap64 (2 + t111)), u114001] 25 (0, 0))) := ⟨h3_⟩
     have BK134 : Aside0 (w27.heap[gb134]? = some (.cells #[.int .i64 0, .int .i64 0, .int .i64 0, .int .i64 0, .int .i64 0] 33 (0, 0))) := ⟨h4_⟩
     have GW134 : Aside0 (w.heap.size ≤ gb134) := ⟨h5_⟩
     have GE134 : Aside0 (w0.heap.size ≤ gb134) := ⟨h6_⟩
     have NB0_134 : Aside0 (g ≠ gb134) := ⟨h7_⟩
     have NB134_0 : Aside0 (gb134 ≠ g) := ⟨h8_⟩
     have NB110_134 : Aside0 (gb110 ≠ gb134) := ⟨h9_⟩
     have NB134_110 : Aside0 (gb134 ≠ gb110) := ⟨h10_⟩
     have NB113_134 : Aside0 (gb113 ≠ gb134) := ⟨h11_⟩
     have NB134_113 : Aside0 (gb134 ≠ gb113) := ⟨h12_⟩
     replace HI0 : Aside0 (IsS44 w0 w27 g s0_0 t119) := ⟨h13_⟩
     replace HK : Aside0 (KeepBut w w27 g none) := ⟨h14_⟩
     replace HB : Aside0 (Below w0.heap.size w0 w27) := ⟨h15_⟩
     clear h0_ h1_ h2_ h3_ h4_ h5_ h6_ h7_ h8_ h9_ h10_ h11_ h12_ h13_ h14_ h15_
     have hHeld : w27.cell? ⟨gb113, 0, none⟩ = some (.int .i64 (wrap64 (2 + t111))) ∧ w27.cell? ⟨gb113, 1, none⟩ = some (u114001) := hS_
     refine nm2_ ?_
     refine one_ (i := 10) (N := some 26) z16_11 rfl rfl (one_of HT_.out (by kernel_rfl)) (by decide) (fun K hK => ?_)
     refine go_ Try.func17 #[.pointer (some ⟨g, 0, none⟩), .int .i64 100] ?_
     with_reducible refine (spec_l30Rd_pick.calls k1 g s0_0 t119 100 t120 t121 w0 _ ?side1 ?side2 A14.out).mono ?_
     (case side1 => exact HI0.out)
     (case side2 => exact HB.out)
     rintro e w28 ⟨rfl, hi, hb, hk⟩
     refine ⟨_, rfl, ?_⟩
     replace HO_114001 := Aside0.mk (Kd.R_mono (Kd.R_keep (IsS44.apart (show IsS44 w0 _ g s0_0 t119 from ni44_16 HI0.out) HO_114001.out (by decide)) hk (fun _ h => h.2)) (fun _ h => h.1))
     replace BK110 := kk_ BK110 hk NB110_0
     replace BK113 := kk_ BK113 hk NB113_0
     replace HO129 := Aside0.mk (Kd.R_mono (Kd.R_keep (IsS44.apart (show IsS44 w0 _ g s0_0 t119 from ni44_16 HI0.out) HO129.out (by decide)) hk (fun _ h => h.2)) (fun _ h => h.1))
     replace BK134 := kk_ BK134 hk NB134_0
     replace HK := Aside0.mk (KeepBut.trans HK.out hk (.inl rfl))
     replace HB := Aside0.mk (hb)
     replace HI0 := Aside0.mk (hi)
     (try clear hb)
     (try clear hb2)
     (try clear hk)
     (try clear hi)
     refine hK.out _ _ ⟨ct_ BK113.out 0, ct_ BK113.out 1⟩ (fun hHeld => ?_)
     clear hK K
     refine nm1_ (some 26) ?_
     exact norm_ nn_ (hJ3_7_10_14_19 (v128, gb134) _ ⟨hHeld, HO129.out, HO_114001.out, BK110.out, BK113.out, BK134.out, GW134.out, GE134.out, NB0_134.out, NB134_0.out, NB110_134.out, NB134_110.out, NB113_134.out, NB134_113.out, HI0.out, HK.out, HB.out⟩)
    intro hJ3_7_14_19
    refine join_ (σ := Unit) 8 z16_16 (fun s_ => [(19, .int .i64 t116), (23, .int .i64 t118), (26, .int .i64 t120)]) (fun s_ w' => (w'.cell? ⟨gb113, 0, none⟩ = some (.int .i64 (wrap64 (2 + t111))) ∧ w'.cell? ⟨gb113, 1, none⟩ = some (u114001)) ∧ (Kd.R k33 33 w' w.heap.size (fun _ => True) u114001 x114001_1) ∧ (w'.heap[gb110]? = some (.cells #[.int .i64 0, .slice none 0 0] 25 (0, 0))) ∧ (w'.heap[gb113]? = some (.cells #[.int .i64 (wrap64 (2 + t111)), u114001] 25 (0, 0))) ∧ (IsS44 w0 w' g s0_0 t121) ∧ (KeepBut w w' g none) ∧ (Below w0.heap.size w0 w')) ?_ ?_
    ·skip
     rintro _ w25 ⟨hS_, h0_, h1_, h2_, h3_, h4_, h5_⟩
     replace HO_114001 : Aside0 (Kd.R k33 33 w25 w.heap.size (fun _ => True) u114001 x114001_1) := ⟨h0_⟩
     replace BK110 : Aside0 (w25.heap[gb110]? = some (.cells #[.int .i64 0, .slice none 0 0] 25 (0, 0))) := ⟨h1_⟩
     replace BK113 : Aside0 (w25.heap[gb113]? = some (.cells #[.int .i64 (wrap64 (2 + t111)), u114001] 25 (0, 0))) := ⟨h2_⟩
     replace HI0 : Aside0 (IsS44 w0 w25 g s0_0 t121) := ⟨h3_⟩
     replace HK : Aside0 (KeepBut w w25 g none) := ⟨h4_⟩
     replace HB : Aside0 (Below w0.heap.size w0 w25) := ⟨h5_⟩
     clear h0_ h1_ h2_ h3_ h4_ h5_
     have hHeld : w25.cell? ⟨gb113, 0, none⟩ = some (.int .i64 (wrap64 (2 + t111))) ∧ w25.cell? ⟨gb113, 1, none⟩ = some (u114001) := hS_
     refine nm2_ ?_
     refine three_ (i := 11) (j := 14) (k := 19) (Ni := some 27) (Nj := some 30) (Nk := some 5) z16_12 z16_13 z16_14 rfl rfl rfl rfl rfl rfl (three_of HT_.out (by kernel_rfl)) (by decide) (by decide) (by decide) (fun K hK => ?_) (fun K hK => ?_) (fun K hK => ?_)
     ·skip
      refine ls_ 27 3 [0, 1, 2, 5, 9, t120] [.int .i64 0, .int .i64 1, .int .i64 2, .int .i64 5, .int .i64 9, .int .i64 t120] ?_
      intro v123 w26 ho27 hb hg_ hnew_
      clear hg_ hnew_
      (first | rw [← Ny122.out] at ho27 | (simp only [Int.reduceToNat] at ho27; rw [← Ny122.out] at ho27))
      replace HO_114001 := Aside0.mk (rB16 HO_114001.out hb)
      have HO124 := Aside0.mk (Kd.R_lower ho27 (keep_size (w := w) (g := g) (row := none) HK.out))
      replace BK110 := kb_ BK110 hb
      replace BK113 := kb_ BK113 hb
      replace HI0 := Aside0.mk (IsS44.below HI0.out hb)
      replace HK := Aside0.mk (KeepBut.trans HK.out (KeepBut.of_below hb g none) (.inl rfl))
      replace HB := Aside0.mk (below_step HB.out hb)
      clear hb ho27
      refine hK.out _ _ ⟨ct_ BK113.out 0, ct_ BK113.out 1⟩ (fun hHeld => ?_)
      clear hK K
      refine nm1_ (some 27) ?_
      exact norm_ nn_ (hJ3_7_10_11 (v123) _ ⟨hHeld, HO124.out, HO_114001.out, BK110.out, BK113.out, HI0.out, HK.out, HB.out⟩)
     ·skip
      refine ls_ 30 3 [0, 0, 3, 8] [.int .i64 0, .int .i64 0, .int .i64 3, .int .i64 8] ?_
      intro v128 w26 ho27 hb hg_ hnew_
      clear hg_ hnew_
      (first | rw [← Ny127.out] at ho27 | (simp only [Int.reduceToNat] at ho27; rw [← Ny127.out] at ho27))
      replace HO_114001 := Aside0.mk (rB16 HO_114001.out hb)
      have HO129 := Aside0.mk (Kd.R_lower ho27 (keep_size (w := w) (g := g) (row := none) HK.out))
      replace BK110 := kb_ BK110 hb
      replace BK113 := kb_ BK113 hb
      replace HI0 := Aside0.mk (IsS44.below HI0.out hb)
      replace HK := Aside0.mk (KeepBut.trans HK.out (KeepBut.of_below hb g none) (.inl rfl))
      replace HB := Aside0.mk (below_step HB.out hb)
      clear hb ho27
      refine hK.out _ _ ⟨ct_ BK113.out 0, ct_ BK113.out 1⟩ (fun hHeld => ?_)
      clear hK K
      refine nm1_ (some 30) ?_
      exact norm_ nn_ (hJ3_7_10_14 (v128) _ ⟨hHeld, HO129.out, HO_114001.out, BK110.out, BK113.out, HI0.out, HK.out, HB.out⟩)
     ·skip
      refine bs_ 5 #[.int .i64 0, .int .i64 0, .int .i64 0, .int .i64 0, .int .i64 0] 33 ?_
      intro gb134 hg w26 hbox hb
      replace HO_114001 := Aside0.mk (rB16 (Kd.R_elderB HO_114001.out gb134 (Nat.le_of_eq hg.symm)) hb)
      replace HB := Aside0.mk (below_step HB.out hb)
      have BK134 := Aside0.mk (hbox)
      have GW134 := Aside0.mk ((by rw [hg]; exact (keep_size (w := w) (g := g) (row := none) HK.out) : w.heap.size ≤ gb134))
      have GE134 := Aside0.mk ((Nat.le_trans HW0.out (by rw [hg]; exact (keep_size (w := w) (g := g) (row := none) HK.out) : w.heap.size ≤ gb134) : w0.heap.size ≤ gb134))
      replace HK := Aside0.mk (KeepBut.trans HK.out (KeepBut.of_below hb g none) (.inl rfl))
      have NB110_134 := Aside0.mk (nl_ BK110.out hg)
      have NB134_110 := Aside0.mk (nm_ BK110.out hg)
      replace BK110 := kb_ BK110 hb
      have NB113_134 := Aside0.mk (nl_ BK113.out hg)
      have NB134_113 := Aside0.mk (nm_ BK113.out hg)
      replace BK113 := kb_ BK113 hb
      have NB0_134 := Aside0.mk ((by rw [hg]; exact Nat.ne_of_lt (IsS44.lt (show IsS44 w0 _ g s0_0 t121 from ni44_16 HI0.out)) : g ≠ gb134))
      have NB134_0 := Aside0.mk ((by rw [hg]; exact Nat.ne_of_gt (IsS44.lt (show IsS44 w0 _ g s0_0 t121 from ni44_16 HI0.out)) : gb134 ≠ g))
      replace HI0 := Aside0.mk (IsS44.below HI0.out hb)
      clear hb hbox hg
      refine hK.out _ _ ⟨ct_ BK113.out 0, ct_ BK113.out 1⟩ (fun hHeld => ?_)
      clear hK K
      refine nm1_ (some 5) ?_
      exact norm_ nn_ (hJ3_7_10_19 (gb134) _ ⟨hHeld, (by (with_reducible repeat (first | apply rA16 | apply rN16 | apply Kd.R_drew)); exact Kd.R_mono HO_114001.out (fun _ hk => by first | exact hk.2 | trivial | simp_all)), BK110.out, BK113.out, BK134.out, GW134.out, GE134.out, NB0_134.out, NB134_0.out, NB110_134.out, NB134_110.out, NB113_134.out, NB134_113.out, HI0.out, HK.out, HB.out⟩)
    intro hJ3_7_10
    refine join_ (σ := Value) 8 z16_17 (fun s_ => [(19, .int .i64 t116), (23, .int .i64 t118), (30, s_)]) (fun s_ w' => (w'.cell? ⟨gb113, 0, none⟩ = some (.int .i64 (wrap64 (2 + t111))) ∧ w'.cell? ⟨gb113, 1, none⟩ = some (u114001)) ∧ (Kd.R (Kd.int .i64) 3 w' w.heap.size (fun _ => True) s_ y127) ∧ (Kd.R k33 33 w' w.heap.size (fun _ => True) u114001 x114001_1) ∧ (w'.heap[gb110]? = some (.cells #[.int .i64 0, .slice none 0 0] 25 (0, 0))) ∧ (w'.heap[gb113]? = some (.cells #[.int .i64 (wrap64 (2 + t111)), u114001] 25 (0, 0))) ∧ (IsS44 w0 w' g s0_0 t119) ∧ (KeepBut w w' g none) ∧ (Below w0.heap.size w0 w')) ?_ ?_
    ·skip
     rintro v128 w26 ⟨hS_, h0_, h1_, h2_, h3_, h4_, h5_, h6_⟩
     have HO129 : Aside0 (Kd.R (Kd.int .i64) 3 w26 w.heap.size (fun _ => True) v128 y127) := ⟨h0_⟩
     replace HO_114001 : Aside0 (Kd.R k33 33 w26 w.heap.size (fun _ => True) u114001 x114001_1) := ⟨h1_⟩
     replace BK110 : Aside0 (w26.heap[gb110]? = some (.cells #[.int .i64 0, .slice none 0 0] 25 (0, 0))) := ⟨h2_⟩
     replace BK113 : Aside0 (w26.heap[gb113]? = some (.cells #[.int .i64 (wrap64 (2 + t111)), u114001] 25 (0, 0))) := ⟨h3_⟩
     replace HI0 : Aside0 (IsS44 w0 w26 g s0_0 t119) := ⟨h4_⟩
     replace HK : Aside0 (KeepBut w w26 g none) := ⟨h5_⟩
     replace HB : Aside0 (Below w0.heap.size w0 w26) := ⟨h6_⟩
     clear h0_ h1_ h2_ h3_ h4_ h5_ h6_
     have hHeld : w26.cell? ⟨gb113, 0, none⟩ = some (.int .i64 (wrap64 (2 + t111))) ∧ w26.cell? ⟨gb113, 1, none⟩ = some (u114001) := hS_
     refine nm2_ ?_
     refine two_ (i := 10) (j := 19) (Ni := some 26) (Nj := some 5) z16_13 z16_15 rfl rfl rfl rfl (two_of HT_.out (by kernel_rfl)) (by decide) (by decide) (fun K hK => ?_) (fun K hK => ?_)
     ·skip
      refine go_ Try.func17 #[.pointer (some ⟨g, 0, none⟩), .int .i64 100] ?_
      with_reducible refine (spec_l30Rd_pick.calls k1 g s0_0 t119 100 t120 t121 w0 _ ?side1 ?side2 A14.out).mono ?_
      (case side1 => exact HI0.out)
      (case side2 => exact HB.out)
      rintro e w27 ⟨rfl, hi, hb, hk⟩
      refine ⟨_, rfl, ?_⟩
      replace HO_114001 := Aside0.mk (Kd.R_mono (Kd.R_keep (IsS44.apart (show IsS44 w0 _ g s0_0 t119 from ni44_16 HI0.out) HO_114001.out (by decide)) hk (fun _ h => h.2)) (fun _ h => h.1))
      replace BK110 := kk_ BK110 hk NB110_0
      replace BK113 := kk_ BK113 hk NB113_0
      replace HO129 := Aside0.mk (Kd.R_mono (Kd.R_keep (IsS44.apart (show IsS44 w0 _ g s0_0 t119 from ni44_16 HI0.out) HO129.out (by decide)) hk (fun _ h => h.2)) (fun _ h => h.1))
      replace HK := Aside0.mk (KeepBut.trans HK.out hk (.inl rfl))
      replace HB := Aside0.mk (hb)
      replace HI0 := Aside0.mk (hi)
      (try clear hb)
      (try clear hb2)
      (try clear hk)
      (try clear hi)
      refine hK.out _ _ ⟨ct_ BK113.out 0, ct_ BK113.out 1⟩ (fun hHeld => ?_)
      clear hK K
      refine nm1_ (some 26) ?_
      exact norm_ nn_ (hJ3_7_10_14 (v128) _ ⟨hHeld, HO129.out, HO_114001.out, BK110.out, BK113.out, HI0.out, HK.out, HB.out⟩)
     ·skip
      refine bs_ 5 #[.int .i64 0, .int .i64 0, .int .i64 0, .int .i64 0, .int .i64 0] 33 ?_
      intro gb134 hg w27 hbox hb
      replace HO_114001 := Aside0.mk (rB16 (Kd.R_elderB HO_114001.out gb134 (Nat.le_of_eq hg.symm)) hb)
      replace HO129 := Aside0.mk (rB16 HO129.out hb)
      replace HB := Aside0.mk (below_step HB.out hb)
      have BK134 := Aside0.mk (hbox)
      have GW134 := Aside0.mk ((by rw [hg]; exact (keep_size (w := w) (g := g) (row := none) HK.out) : w.heap.size ≤ gb134))
      have GE134 := Aside0.mk ((Nat.le_trans HW0.out (by rw [hg]; exact (keep_size (w := w) (g := g) (row := none) HK.out) : w.heap.size ≤ gb134) : w0.heap.size ≤ gb134))
      replace HK := Aside0.mk (KeepBut.trans HK.out (KeepBut.of_below hb g none) (.inl rfl))
      have NB110_134 := Aside0.mk (nl_ BK110.out hg)
      have NB134_110 := Aside0.mk (nm_ BK110.out hg)
      replace BK110 := kb_ BK110 hb
      have NB113_134 := Aside0.mk (nl_ BK113.out hg)
      have NB134_113 := Aside0.mk (nm_ BK113.out hg)
      replace BK113 := kb_ BK113 hb
      have NB0_134 := Aside0.mk ((by rw [hg]; exact Nat.ne_of_lt (IsS44.lt (show IsS44 w0 _ g s0_0 t119 from ni44_16 HI0.out)) : g ≠ gb134))
      have NB134_0 := Aside0.mk ((by rw [hg]; exact Nat.ne_of_gt (IsS44.lt (show IsS44 w0 _ g s0_0 t119 from ni44_16 HI0.out)) : gb134 ≠ g))
      replace HI0 := Aside0.mk (IsS44.below HI0.out hb)
      clear hb hbox hg
      refine hK.out _ _ ⟨ct_ BK113.out 0, ct_ BK113.out 1⟩ (fun hHeld => ?_)
      clear hK K
      refine nm1_ (some 5) ?_
      exact norm_ nn_ (hJ3_7_14_19 (v128, gb134) _ ⟨hHeld, HO129.out, (by (with_reducible repeat (first | apply rA16 | apply rN16 | apply Kd.R_drew)); exact Kd.R_mono HO_114001.out (fun _ hk => by first | exact hk.2 | trivial | simp_all)), BK110.out, BK113.out, BK134.out, GW134.out, GE134.out, NB0_134.out, NB134_0.out, NB110_134.out, NB134_110.out, NB113_134.out, NB134_113.out, HI0.out, HK.out, HB.out⟩)
    intro hJ3_7_14
    refine join_ (σ := Nat) 8 z16_18 (fun s_ => [(19, .int .i64 t116), (23, .int .i64 t118), (5, .pointer (some ⟨s_, 0, none⟩))]) (fun s_ w' => (w'.cell? ⟨gb113, 0, none⟩ = some (.int .i64 (wrap64 (2 + t111))) ∧ w'.cell? ⟨gb113, 1, none⟩ = some (u114001)) ∧ (Kd.R k33 33 w' w.heap.size (fun k_ => k_ ≠ s_) u114001 x114001_1) ∧ (w'.heap[gb110]? = some (.cells #[.int .i64 0, .slice none 0 0] 25 (0, 0))) ∧ (w'.heap[gb113]? = some (.cells #[.int .i64 (wrap64 (2 + t111)), u114001] 25 (0, 0))) ∧ (w'.heap[s_]? = some (.cells #[.int .i64 0, .int .i64 0, .int .i64 0, .int .i64 0, .int .i64 0] 33 (0, 0))) ∧ (w.heap.size ≤ s_) ∧ (w0.heap.size ≤ s_) ∧ (g ≠ s_) ∧ (s_ ≠ g) ∧ (gb110 ≠ s_) ∧ (s_ ≠ gb110) ∧ (gb113 ≠ s_) ∧ (s_ ≠ gb113) ∧ (IsS44 w0 w' g s0_0 t119) ∧ (KeepBut w w' g none) ∧ (Below w0.heap.size w0 w')) ?_ ?_
    ·skip
     rintro gb134 w25 ⟨hS_, h0_, h1_, h2_, h3_, h4_, h5_, h6_, h7_, h8_, h9_, h10_, h11_, h12_, h13_, h14_⟩
     replace HO_114001 : Aside0 (Kd.R k33 33 w25 w.heap.size (fun k_ => k_ ≠ gb134) u114001 x114001_1) := ⟨h0_⟩
     replace BK110 : Aside0 (w25.heap[gb110]? = some (.cells #[.int .i64 0, .slice none 0 0] 25 (0, 0))) := ⟨h1_⟩
     replace BK113 : Aside0 (w25.heap[gb113]? = some (.cells #[.int .i64 (wrap64 (2 + t111)), u114001] 25 (0, 0))) := ⟨h2_⟩
     have BK134 : Aside0 (w25.heap[gb134]? = some (.cells #[.int .i64 0, .int .i64 0, .int .i64 0, .int .i64 0, .int .i64 0] 33 (0, 0))) := ⟨h3_⟩
     have GW134 : Aside0 (w.heap.size ≤ gb134) := ⟨h4_⟩
     have GE134 : Aside0 (w0.heap.size ≤ gb134) := ⟨h5_⟩
     have NB0_134 : Aside0 (g ≠ gb134) := ⟨h6_⟩
     have NB134_0 : Aside0 (gb134 ≠ g) := ⟨h7_⟩
     have NB110_134 : Aside0 (gb110 ≠ gb134) := ⟨h8_⟩
     have NB134_110 : Aside0 (gb134 ≠ gb110) := ⟨h9_⟩
     have NB113_134 : Aside0 (gb113 ≠ gb134) := ⟨h10_⟩
     have NB134_113 : Aside0 (gb134 ≠ gb113) := ⟨h11_⟩
     replace HI0 : Aside0 (IsS44 w0 w25 g s0_0 t119) := ⟨h12_⟩
     replace HK : Aside0 (KeepBut w w25 g none) := ⟨h13_⟩
     replace HB : Aside0 (Below w0.heap.size w0 w25) := ⟨h14_⟩
     clear h0_ h1_ h2_ h3_ h4_ h5_ h6_ h7_ h8_ h9_ h10_ h11_ h12_ h13_ h14_
     have hHeld : w25.cell? ⟨gb113, 0, none⟩ = some (.int .i64 (wrap64 (2 + t111))) ∧ w25.cell? ⟨gb113, 1, none⟩ = some (u114001) := hS_
     refine nm2_ ?_
     refine two_ (i := 10) (j := 14) (Ni := some 26) (Nj := some 30) z16_14 z16_15 rfl rfl rfl rfl (two_of HT_.out (by kernel_rfl)) (by decide) (by decide) (fun K hK => ?_) (fun K hK => ?_)
     ·skip
      refine go_ Try.func17 #[.pointer (some ⟨g, 0, none⟩), .int .i64 100] ?_
      with_reducible refine (spec_l30Rd_pick.calls k1 g s0_0 t119 100 t120 t121 w0 _ ?side1 ?side2 A14.out).mono ?_
      (case side1 => exact HI0.out)
      (case side2 => exact HB.out)
      rintro e w26 ⟨rfl, hi, hb, hk⟩
      refine ⟨_, rfl, ?_⟩
      replace HO_114001 := Aside0.mk (Kd.R_mono (Kd.R_keep (IsS44.apart (show IsS44 w0 _ g s0_0 t119 from ni44_16 HI0.out) HO_114001.out (by decide)) hk (fun _ h => h.2)) (fun _ h => h.1))
      replace BK110 := kk_ BK110 hk NB110_0
      replace BK113 := kk_ BK113 hk NB113_0
      replace BK134 := kk_ BK134 hk NB134_0
      replace HK := Aside0.mk (KeepBut.trans HK.out hk (.inl rfl))
      replace HB := Aside0.mk (hb)
      replace HI0 := Aside0.mk (hi)
      (try clear hb)
      (try clear hb2)
      (try clear hk)
      (try clear hi)
      refine hK.out _ _ ⟨ct_ BK113.out 0, ct_ BK113.out 1⟩ (fun hHeld => ?_)
      clear hK K
      refine nm1_ (some 26) ?_
      exact norm_ nn_ (hJ3_7_10_19 (gb134) _ ⟨hHeld, HO_114001.out, BK110.out, BK113.out, BK134.out, GW134.out, GE134.out, NB0_134.out, NB134_0.out, NB110_134.out, NB134_110.out, NB113_134.out, NB134_113.out, HI0.out, HK.out, HB.out⟩)
     ·skip
      refine ls_ 30 3 [0, 0, 3, 8] [.int .i64 0, .int .i64 0, .int .i64 3, .int .i64 8] ?_
      intro v128 w26 ho27 hb hg_ hnew_
      clear hg_ hnew_
      (first | rw [← Ny127.out] at ho27 | (simp only [Int.reduceToNat] at ho27; rw [← Ny127.out] at ho27))
      replace HO_114001 := Aside0.mk (rB16 HO_114001.out hb)
      have HO129 := Aside0.mk (Kd.R_lower ho27 (keep_size (w := w) (g := g) (row := none) HK.out))
      replace BK110 := kb_ BK110 hb
      replace BK113 := kb_ BK113 hb
      replace HI0 := Aside0.mk (IsS44.below HI0.out hb)
      replace BK134 := kb_ BK134 hb
      replace HK := Aside0.mk (KeepBut.trans HK.out (KeepBut.of_below hb g none) (.inl rfl))
      replace HB := Aside0.mk (below_step HB.out hb)
      clear hb ho27
      refine hK.out _ _ ⟨ct_ BK113.out 0, ct_ BK113.out 1⟩ (fun hHeld => ?_)
      clear hK K
      refine nm1_ (some 30) ?_
      exact norm_ nn_ (hJ3_7_14_19 (v128, gb134) _ ⟨hHeld, HO129.out, HO_114001.out, BK110.out, BK113.out, BK134.out, GW134.out, GE134.out, NB0_134.out, NB134_0.out, NB110_134.out, NB134_110.out, NB113_134.out, NB134_113.out, HI0.out, HK.out, HB.out⟩)
    intro hJ3_7_19
    refine join_ (σ := Value × Nat) 8 z16_19 (fun s_ => [(19, .int .i64 t116), (30, s_.1), (5, .pointer (some ⟨s_.2, 0, none⟩))]) (fun s_ w' => (w'.cell? ⟨gb113, 0, none⟩ = some (.int .i64 (wrap64 (2 + t111))) ∧ w'.cell? ⟨gb113, 1, none⟩ = some (u114001)) ∧ (Kd.R (Kd.int .i64) 3 w' w.heap.size (fun _ => True) s_.1 y127) ∧ (Kd.R k33 33 w' w.heap.size (fun k_ => k_ ≠ s_.2) u114001 x114001_1) ∧ (w'.heap[gb110]? = some (.cells #[.int .i64 0, .slice none 0 0] 25 (0, 0))) ∧ (w'.heap[gb113]? = some (.cells #[.int .i64 (wrap64 (2 + t111)), u114001] 25 (0, 0))) ∧ (w'.heap[s_.2]? = some (.cells #[.int .i64 0, .int .i64 0, .int .i64 0, .int .i64 0, .int .i64 0] 33 (0, 0))) ∧ (w.heap.size ≤ s_.2) ∧ (w0.heap.size ≤ s_.2) ∧ (g ≠ s_.2) ∧ (s_.2 ≠ g) ∧ (gb110 ≠ s_.2) ∧ (s_.2 ≠ gb110) ∧ (gb113 ≠ s_.2) ∧ (s_.2 ≠ gb113) ∧ (IsS44 w0 w' g s0_0 t117) ∧ (KeepBut w w' g none) ∧ (Below w0.heap.size w0 w')) ?_ ?_
    ·skip
     rintro ⟨v128, gb134⟩ w26 ⟨hS_, h0_, h1_, h2_, h3_, h4_, h5_, h6_, h7_, h8_, h9_, h10_, h11_, h12_, h13_, h14_, h15_⟩
     have HO129 : Aside0 (Kd.R (Kd.int .i64) 3 w26 w.heap.size (fun _ => True) v128 y127) := ⟨h0_⟩
     replace HO_114001 : Aside0 (Kd.R k33 33 w26 w.heap.size (fun k_ => k_ ≠ gb134) u114001 x114001_1) := ⟨h1_⟩
     replace BK110 : Aside0 (w26.heap[gb110]? = some (.cells #[.int .i64 0, .slice none 0 0] 25 (0, 0))) := ⟨h2_⟩
     replace BK113 : Aside0 (w26.heap[gb113]? = some (.cells #[.int .i64 (wrap64 (2 + t111)), u114001] 25 (0, 0))) := ⟨h3_⟩
     have BK134 : Aside0 (w26.heap[gb134]? = some (.cells #[.int .i64 0, .int .i64 0, .int .i64 0, .int .i64 0, .int .i64 0] 33 (0, 0))) := ⟨h4_⟩
     have GW134 : Aside0 (w.heap.size ≤ gb134) := ⟨h5_⟩
     have GE134 : Aside0 (w0.heap.size ≤ gb134) := ⟨h6_⟩
     have NB0_134 : Aside0 (g ≠ gb134) := ⟨h7_⟩
     have NB134_0 : Aside0 (gb134 ≠ g) := ⟨h8_⟩
     have NB110_134 : Aside0 (gb110 ≠ gb134) := ⟨h9_⟩
     have NB134_110 : Aside0 (gb134 ≠ gb110) := ⟨h10_⟩
     have NB113_134 : Aside0 (gb113 ≠ gb134) := ⟨h11_⟩
     have NB134_113 : Aside0 (gb134 ≠ gb113) := ⟨h12_⟩
     replace HI0 : Aside0 (IsS44 w0 w26 g s0_0 t117) := ⟨h13_⟩
     replace HK : Aside0 (KeepBut w w26 g none) := ⟨h14_⟩
     replace HB : Aside0 (Below w0.heap.size w0 w26) := ⟨h15_⟩
     clear h0_ h1_ h2_ h3_ h4_ h5_ h6_ h7_ h8_ h9_ h10_ h11_ h12_ h13_ h14_ h15_
     have hHeld : w26.cell? ⟨gb113, 0, none⟩ = some (.int .i64 (wrap64 (2 + t111))) ∧ w26.cell? ⟨gb113, 1, none⟩ = some (u114001) := hS_
     refine nm2_ ?_
     refine one_ (i := 7) (N := some 23) z16_15 rfl rfl (one_of HT_.out (by kernel_rfl)) (by decide) (fun K hK => ?_)
     refine go_ Try.func17 #[.pointer (some ⟨g, 0, none⟩), .int .i64 (wrap64 (2 + t111))] ?_
     with_reducible refine (spec_l30Rd_pick.calls k1 g s0_0 t117 (wrap64 (2 + t111)) t118 t119 w0 _ ?side1 ?side2 A13.out).mono ?_
     (case side1 => exact HI0.out)
     (case side2 => exact HB.out)
     rintro e w27 ⟨rfl, hi, hb, hk⟩
     refine ⟨_, rfl, ?_⟩
     replace HO_114001 := Aside0.mk (Kd.R_mono (Kd.R_keep (IsS44.apart (show IsS44 w0 _ g s0_0 t117 from ni44_16 HI0.out) HO_114001.out (by decide)) hk (fun _ h => h.2)) (fun _ h => h.1))
     replace BK110 := kk_ BK110 hk NB110_0
     replace BK113 := kk_ BK113 hk NB113_0
     replace HO129 := Aside0.mk (Kd.R_mono (Kd.R_keep (IsS44.apart (show IsS44 w0 _ g s0_0 t117 from ni44_16 HI0.out) HO129.out (by decide)) hk (fun _ h => h.2)) (fun _ h => h.1))
     replace BK134 := kk_ BK134 hk NB134_0
     replace HK := Aside0.mk (KeepBut.trans HK.out hk (.inl rfl))
     replace HB := Aside0.mk (hb)
     replace HI0 := Aside0.mk (hi)
     (try clear hb)
     (try clear hb2)
     (try clear hk)
     (try clear hi)
     refine hK.out _ _ ⟨ct_ BK113.out 0, ct_ BK113.out 1⟩ (fun hHeld => ?_)
     clear hK K
     refine nm1_ (some 23) ?_
     exact norm_ nn_ (hJ3_7_14_19 (v128, gb134) _ ⟨hHeld, HO129.out, HO_114001.out, BK110.out, BK113.out, BK134.out, GW134.out, GE134.out, NB0_134.out, NB134_0.out, NB110_134.out, NB134_110.out, NB113_134.out, NB134_113.out, HI0.out, HK.out, HB.out⟩)
    intro hJ3_14_19
    refine join_ (σ := Unit) 9 z16_20 (fun s_ => [(19, .int .i64 t116), (23, .int .i64 t118)]) (fun s_ w' => (w'.cell? ⟨gb113, 0, none⟩ = some (.int .i64 (wrap64 (2 + t111))) ∧ w'.cell? ⟨gb113, 1, none⟩ = some (u114001)) ∧ (Kd.R k33 33 w' w.heap.size (fun _ => True) u114001 x114001_1) ∧ (w'.heap[gb110]? = some (.cells #[.int .i64 0, .slice none 0 0] 25 (0, 0))) ∧ (w'.heap[gb113]? = some (.cells #[.int .i64 (wrap64 (2 + t111)), u114001] 25 (0, 0))) ∧ (IsS44 w0 w' g s0_0 t119) ∧ (KeepBut w w' g none) ∧ (Below w0.heap.size w0 w')) ?_ ?_
    ·skip
     rintro _ w24 ⟨hS_, h0_, h1_, h2_, h3_, h4_, h5_⟩
     replace HO_114001 : Aside0 (Kd.R k33 33 w24 w.heap.size (fun _ => True) u114001 x114001_1) := ⟨h0_⟩
     replace BK110 : Aside0 (w24.heap[gb110]? = some (.cells #[.int .i64 0, .slice none 0 0] 25 (0, 0))) := ⟨h1_⟩
     replace BK113 : Aside0 (w24.heap[gb113]? = some (.cells #[.int .i64 (wrap64 (2 + t111)), u114001] 25 (0, 0))) := ⟨h2_⟩
     replace HI0 : Aside0 (IsS44 w0 w24 g s0_0 t119) := ⟨h3_⟩
     replace HK : Aside0 (KeepBut w w24 g none) := ⟨h4_⟩
     replace HB : Aside0 (Below w0.heap.size w0 w24) := ⟨h5_⟩
     clear h0_ h1_ h2_ h3_ h4_ h5_
     have hHeld : w24.cell? ⟨gb113, 0, none⟩ = some (.int .i64 (wrap64 (2 + t111))) ∧ w24.cell? ⟨gb113, 1, none⟩ = some (u114001) := hS_
     refine nm2_ ?_
     refine three_ (i := 10) (j := 14) (k := 19) (Ni := some 26) (Nj := some 30) (Nk := some 5) z16_16 z16_17 z16_18 rfl rfl rfl rfl rfl rfl (three_of HT_.out (by kernel_rfl)) (by decide) (by decide) (by decide) (fun K hK => ?_) (fun K hK => ?_) (fun K hK => ?_)
     ·skip
      refine go_ Try.func17 #[.pointer (some ⟨g, 0, none⟩), .int .i64 100] ?_
      with_reducible refine (spec_l30Rd_pick.calls k1 g s0_0 t119 100 t120 t121 w0 _ ?side1 ?side2 A14.out).mono ?_
      (case side1 => exact HI0.out)
      (case side2 => exact HB.out)
      rintro e w25 ⟨rfl, hi, hb, hk⟩
      refine ⟨_, rfl, ?_⟩
      replace HO_114001 := Aside0.mk (Kd.R_mono (Kd.R_keep (IsS44.apart (show IsS44 w0 _ g s0_0 t119 from ni44_16 HI0.out) HO_114001.out (by decide)) hk (fun _ h => h.2)) (fun _ h => h.1))
      replace BK110 := kk_ BK110 hk NB110_0
      replace BK113 := kk_ BK113 hk NB113_0
      replace HK := Aside0.mk (KeepBut.trans HK.out hk (.inl rfl))
      replace HB := Aside0.mk (hb)
      replace HI0 := Aside0.mk (hi)
      (try clear hb)
      (try clear hb2)
      (try clear hk)
      (try clear hi)
      refine hK.out _ _ ⟨ct_ BK113.out 0, ct_ BK113.out 1⟩ (fun hHeld => ?_)
      clear hK K
      refine nm1_ (some 26) ?_
      exact norm_ nn_ (hJ3_7_10 () _ ⟨hHeld, HO_114001.out, BK110.out, BK113.out, HI0.out, HK.out, HB.out⟩)
     ·skip
      refine ls_ 30 3 [0, 0, 3, 8] [.int .i64 0, .int .i64 0, .int .i64 3, .int .i64 8] ?_
      intro v128 w25 ho26 hb hg_ hnew_
      clear hg_ hnew_
      (first | rw [← Ny127.out] at ho26 | (simp only [Int.reduceToNat] at ho26; rw [← Ny127.out] at ho26))
      replace HO_114001 := Aside0.mk (rB16 HO_114001.out hb)
      have HO129 := Aside0.mk (Kd.R_lower ho26 (keep_size (w := w) (g := g) (row := none) HK.out))
      replace BK110 := kb_ BK110 hb
      replace BK113 := kb_ BK113 hb
      replace HI0 := Aside0.mk (IsS44.below HI0.out hb)
      replace HK := Aside0.mk (KeepBut.trans HK.out (KeepBut.of_below hb g none) (.inl rfl))
      replace HB := Aside0.mk (below_step HB.out hb)
      clear hb ho26
      refine hK.out _ _ ⟨ct_ BK113.out 0, ct_ BK113.out 1⟩ (fun hHeld => ?_)
      clear hK K
      refine nm1_ (some 30) ?_
      exact norm_ nn_ (hJ3_7_14 (v128) _ ⟨hHeld, HO129.out, HO_114001.out, BK110.out, BK113.out, HI0.out, HK.out, HB.out⟩)
     ·skip
      refine bs_ 5 #[.int .i64 0, .int .i64 0, .int .i64 0, .int .i64 0, .int .i64 0] 33 ?_
      intro gb134 hg w25 hbox hb
      replace HO_114001 := Aside0.mk (rB16 (Kd.R_elderB HO_114001.out gb134 (Nat.le_of_eq hg.symm)) hb)
      replace HB := Aside0.mk (below_step HB.out hb)
      have BK134 := Aside0.mk (hbox)
      have GW134 := Aside0.mk ((by rw [hg]; exact (keep_size (w := w) (g := g) (row := none) HK.out) : w.heap.size ≤ gb134))
      have GE134 := Aside0.mk ((Nat.le_trans HW0.out (by rw [hg]; exact (keep_size (w := w) (g := g) (row := none) HK.out) : w.heap.size ≤ gb134) : w0.heap.size ≤ gb134))
      replace HK := Aside0.mk (KeepBut.trans HK.out (KeepBut.of_below hb g none) (.inl rfl))
      have NB110_134 := Aside0.mk (nl_ BK110.out hg)
      have NB134_110 := Aside0.mk (nm_ BK110.out hg)
      replace BK110 := kb_ BK110 hb
      have NB113_134 := Aside0.mk (nl_ BK113.out hg)
      have NB134_113 := Aside0.mk (nm_ BK113.out hg)
      replace BK113 := kb_ BK113 hb
      have NB0_134 := Aside0.mk ((by rw [hg]; exact Nat.ne_of_lt (IsS44.lt (show IsS44 w0 _ g s0_0 t119 from ni44_16 HI0.out)) : g ≠ gb134))
      have NB134_0 := Aside0.mk ((by rw [hg]; exact Nat.ne_of_gt (IsS44.lt (show IsS44 w0 _ g s0_0 t119 from ni44_16 HI0.out)) : gb134 ≠ g))
      replace HI0 := Aside0.mk (IsS44.below HI0.out hb)
      clear hb hbox hg
      refine hK.out _ _ ⟨ct_ BK113.out 0, ct_ BK113.out 1⟩ (fun hHeld => ?_)
      clear hK K
      refine nm1_ (some 5) ?_
      exact norm_ nn_ (hJ3_7_19 (gb134) _ ⟨hHeld, (by (with_reducible repeat (first | apply rA16 | apply rN16 | apply Kd.R_drew)); exact Kd.R_mono HO_114001.out (fun _ hk => by first | exact hk.2 | trivial | simp_all)), BK110.out, BK113.out, BK134.out, GW134.out, GE134.out, NB0_134.out, NB134_0.out, NB110_134.out, NB134_110.out, NB113_134.out, NB134_113.out, HI0.out, HK.out, HB.out⟩)
    intro hJ3_7
    refine join_ (σ := Value) 9 z16_21 (fun s_ => [(19, .int .i64 t116), (30, s_)]) (fun s_ w' => (w'.cell? ⟨gb113, 0, none⟩ = some (.int .i64 (wrap64 (2 + t111))) ∧ w'.cell? ⟨gb113, 1, none⟩ = some (u114001)) ∧ (Kd.R (Kd.int .i64) 3 w' w.heap.size (fun _ => True) s_ y127) ∧ (Kd.R k33 33 w' w.heap.size (fun _ => True) u114001 x114001_1) ∧ (w'.heap[gb110]? = some (.cells #[.int .i64 0, .slice none 0 0] 25 (0, 0))) ∧ (w'.heap[gb113]? = some (.cells #[.int .i64 (wrap64 (2 + t111)), u114001] 25 (0, 0))) ∧ (IsS44 w0 w' g s0_0 t117) ∧ (KeepBut w w' g none) ∧ (Below w0.heap.size w0 w')) ?_ ?_
    ·skip
     rintro v128 w25 ⟨hS_, h0_, h1_, h2_, h3_, h4_, h5_, h6_⟩
     have HO129 : Aside0 (Kd.R (Kd.int .i64) 3 w25 w.heap.size (fun _ => True) v128 y127) := ⟨h0_⟩
     replace HO_114001 : Aside0 (Kd.R k33 33 w25 w.heap.size (fun _ => True) u114001 x114001_1) := ⟨h1_⟩
     replace BK110 : Aside0 (w25.heap[gb110]? = some (.cells #[.int .i64 0, .slice none 0 0] 25 (0, 0))) := ⟨h2_⟩
     replace BK113 : Aside0 (w25.heap[gb113]? = some (.cells #[.int .i64 (wrap64 (2 + t111)), u114001] 25 (0, 0))) := ⟨h3_⟩
     replace HI0 : Aside0 (IsS44 w0 w25 g s0_0 t117) := ⟨h4_⟩
     replace HK : Aside0 (KeepBut w w25 g none) := ⟨h5_⟩
     replace HB : Aside0 (Below w0.heap.size w0 w25) := ⟨h6_⟩
     clear h0_ h1_ h2_ h3_ h4_ h5_ h6_
     have hHeld : w25.cell? ⟨gb113, 0, none⟩ = some (.int .i64 (wrap64 (2 + t111))) ∧ w25.cell? ⟨gb113, 1, none⟩ = some (u114001) := hS_
     refine nm2_ ?_
     refine two_ (i := 7) (j := 19) (Ni := some 23) (Nj := some 5) z16_17 z16_19 rfl rfl rfl rfl (two_of HT_.out (by kernel_rfl)) (by decide) (by decide) (fun K hK => ?_) (fun K hK => ?_)
     ·skip
      refine go_ Try.func17 #[.pointer (some ⟨g, 0, none⟩), .int .i64 (wrap64 (2 + t111))] ?_
      with_reducible refine (spec_l30Rd_pick.calls k1 g s0_0 t117 (wrap64 (2 + t111)) t118 t119 w0 _ ?side1 ?side2 A13.out).mono ?_
      (case side1 => exact HI0.out)
      (case side2 => exact HB.out)
      rintro e w26 ⟨rfl, hi, hb, hk⟩
      refine ⟨_, rfl, ?_⟩
      replace HO_114001 := Aside0.mk (Kd.R_mono (Kd.R_keep (IsS44.apart (show IsS44 w0 _ g s0_0 t117 from ni44_16 HI0.out) HO_114001.out (by decide)) hk (fun _ h => h.2)) (fun _ h => h.1))
      replace BK110 := kk_ BK110 hk NB110_0
      replace BK113 := kk_ BK113 hk NB113_0
      replace HO129 := Aside0.mk (Kd.R_mono (Kd.R_keep (IsS44.apart (show IsS44 w0 _ g s0_0 t117 from ni44_16 HI0.out) HO129.out (by decide)) hk (fun _ h => h.2)) (fun _ h => h.1))
      replace HK := Aside0.mk (KeepBut.trans HK.out hk (.inl rfl))
      replace HB := Aside0.mk (hb)
      replace HI0 := Aside0.mk (hi)
      (try clear hb)
      (try clear hb2)
      (try clear hk)
      (try clear hi)
      refine hK.out _ _ ⟨ct_ BK113.out 0, ct_ BK113.out 1⟩ (fun hHeld => ?_)
      clear hK K
      refine nm1_ (some 23) ?_
      exact norm_ nn_ (hJ3_7_14 (v128) _ ⟨hHeld, HO129.out, HO_114001.out, BK110.out, BK113.out, HI0.out, HK.out, HB.out⟩)
     ·skip
      refine bs_ 5 #[.int .i64 0, .int .i64 0, .int .i64 0, .int .i64 0, .int .i64 0] 33 ?_
      intro gb134 hg w26 hbox hb
      replace HO_114001 := Aside0.mk (rB16 (Kd.R_elderB HO_114001.out gb134 (Nat.le_of_eq hg.symm)) hb)
      replace HO129 := Aside0.mk (rB16 HO129.out hb)
      replace HB := Aside0.mk (below_step HB.out hb)
      have BK134 := Aside0.mk (hbox)
      have GW134 := Aside0.mk ((by rw [hg]; exact (keep_size (w := w) (g := g) (row := none) HK.out) : w.heap.size ≤ gb134))
      have GE134 := Aside0.mk ((Nat.le_trans HW0.out (by rw [hg]; exact (keep_size (w := w) (g := g) (row := none) HK.out) : w.heap.size ≤ gb134) : w0.heap.size ≤ gb134))
      replace HK := Aside0.mk (KeepBut.trans HK.out (KeepBut.of_below hb g none) (.inl rfl))
      have NB110_134 := Aside0.mk (nl_ BK110.out hg)
      have NB134_110 := Aside0.mk (nm_ BK110.out hg)
      replace BK110 := kb_ BK110 hb
      have NB113_134 := Aside0.mk (nl_ BK113.out hg)
      have NB134_113 := Aside0.mk (nm_ BK113.out hg)
      replace BK113 := kb_ BK113 hb
      have NB0_134 := Aside0.mk ((by rw [hg]; exact Nat.ne_of_lt (IsS44.lt (show IsS44 w0 _ g s0_0 t117 from ni44_16 HI0.out)) : g ≠ gb134))
      have NB134_0 := Aside0.mk ((by rw [hg]; exact Nat.ne_of_gt (IsS44.lt (show IsS44 w0 _ g s0_0 t117 from ni44_16 HI0.out)) : gb134 ≠ g))
      replace HI0 := Aside0.mk (IsS44.below HI0.out hb)
      clear hb hbox hg
      refine hK.out _ _ ⟨ct_ BK113.out 0, ct_ BK113.out 1⟩ (fun hHeld => ?_)
      clear hK K
      refine nm1_ (some 5) ?_
      exact norm_ nn_ (hJ3_14_19 (v128, gb134) _ ⟨hHeld, HO129.out, (by (with_reducible repeat (first | apply rA16 | apply rN16 | apply Kd.R_drew)); exact Kd.R_mono HO_114001.out (fun _ hk => by first | exact hk.2 | trivial | simp_all)), BK110.out, BK113.out, BK134.out, GW134.out, GE134.out, NB0_134.out, NB134_0.out, NB110_134.out, NB134_110.out, NB113_134.out, NB134_113.out, HI0.out, HK.out, HB.out⟩)
    intro hJ3_14
    refine join_ (σ := Nat) 9 z16_22 (fun s_ => [(19, .int .i64 t116), (5, .pointer (some ⟨s_, 0, none⟩))]) (fun s_ w' => (w'.cell? ⟨gb113, 0, none⟩ = some (.int .i64 (wrap64 (2 + t111))) ∧ w'.cell? ⟨gb113, 1, none⟩ = some (u114001)) ∧ (Kd.R k33 33 w' w.heap.size (fun k_ => k_ ≠ s_) u114001 x114001_1) ∧ (w'.heap[gb110]? = some (.cells #[.int .i64 0, .slice none 0 0] 25 (0, 0))) ∧ (w'.heap[gb113]? = some (.cells #[.int .i64 (wrap64 (2 + t111)), u114001] 25 (0, 0))) ∧ (w'.heap[s_]? = some (.cells #[.int .i64 0, .int .i64 0, .int .i64 0, .int .i64 0, .int .i64 0] 33 (0, 0))) ∧ (w.heap.size ≤ s_) ∧ (w0.heap.size ≤ s_) ∧ (g ≠ s_) ∧ (s_ ≠ g) ∧ (gb110 ≠ s_) ∧ (s_ ≠ gb110) ∧ (gb113 ≠ s_) ∧ (s_ ≠ gb113) ∧ (IsS44 w0 w' g s0_0 t117) ∧ (KeepBut w w' g none) ∧ (Below w0.heap.size w0 w')) ?_ ?_
    ·skip
     rintro gb134 w24 ⟨hS_, h0_, h1_, h2_, h3_, h4_, h5_, h6_, h7_, h8_, h9_, h10_, h11_, h12_, h13_, h14_⟩
     replace HO_114001 : Aside0 (Kd.R k33 33 w24 w.heap.size (fun k_ => k_ ≠ gb134) u114001 x114001_1) := ⟨h0_⟩
     replace BK110 : Aside0 (w24.heap[gb110]? = some (.cells #[.int .i64 0, .slice none 0 0] 25 (0, 0))) := ⟨h1_⟩
     replace BK113 : Aside0 (w24.heap[gb113]? = some (.cells #[.int .i64 (wrap64 (2 + t111)), u114001] 25 (0, 0))) := ⟨h2_⟩
     have BK134 : Aside0 (w24.heap[gb134]? = some (.cells #[.int .i64 0, .int .i64 0, .int .i64 0, .int .i64 0, .int .i64 0] 33 (0, 0))) := ⟨h3_⟩
     have GW134 : Aside0 (w.heap.size ≤ gb134) := ⟨h4_⟩
     have GE134 : Aside0 (w0.heap.size ≤ gb134) := ⟨h5_⟩
     have NB0_134 : Aside0 (g ≠ gb134) := ⟨h6_⟩
     have NB134_0 : Aside0 (gb134 ≠ g) := ⟨h7_⟩
     have NB110_134 : Aside0 (gb110 ≠ gb134) := ⟨h8_⟩
     have NB134_110 : Aside0 (gb134 ≠ gb110) := ⟨h9_⟩
     have NB113_134 : Aside0 (gb113 ≠ gb134) := ⟨h10_⟩
     have NB134_113 : Aside0 (gb134 ≠ gb113) := ⟨h11_⟩
     replace HI0 : Aside0 (IsS44 w0 w24 g s0_0 t117) := ⟨h12_⟩
     replace HK : Aside0 (KeepBut w w24 g none) := ⟨h13_⟩
     replace HB : Aside0 (Below w0.heap.size w0 w24) := ⟨h14_⟩
     clear h0_ h1_ h2_ h3_ h4_ h5_ h6_ h7_ h8_ h9_ h10_ h11_ h12_ h13_ h14_
     have hHeld : w24.cell? ⟨gb113, 0, none⟩ = some (.int .i64 (wrap64 (2 + t111))) ∧ w24.cell? ⟨gb113, 1, none⟩ = some (u114001) := hS_
     refine nm2_ ?_
     refine two_ (i := 7) (j := 14) (Ni := some 23) (Nj := some 30) z16_18 z16_19 rfl rfl rfl rfl (two_of HT_.out (by kernel_rfl)) (by decide) (by decide) (fun K hK => ?_) (fun K hK => ?_)
     ·skip
      refine go_ Try.func17 #[.pointer (some ⟨g, 0, none⟩), .int .i64 (wrap64 (2 + t111))] ?_
      with_reducible refine (spec_l30Rd_pick.calls k1 g s0_0 t117 (wrap64 (2 + t111)) t118 t119 w0 _ ?side1 ?side2 A13.out).mono ?_
      (case side1 => exact HI0.out)
      (case side2 => exact HB.out)
      rintro e w25 ⟨rfl, hi, hb, hk⟩
      refine ⟨_, rfl, ?_⟩
      replace HO_114001 := Aside0.mk (Kd.R_mono (Kd.R_keep (IsS44.apart (show IsS44 w0 _ g s0_0 t117 from ni44_16 HI0.out) HO_114001.out (by decide)) hk (fun _ h => h.2)) (fun _ h => h.1))
      replace BK110 := kk_ BK110 hk NB110_0
      replace BK113 := kk_ BK113 hk NB113_0
      replace BK134 := kk_ BK134 hk NB134_0
      replace HK := Aside0.mk (KeepBut.trans HK.out hk (.inl rfl))
      replace HB := Aside0.mk (hb)
      replace HI0 := Aside0.mk (hi)
      (try clear hb)
      (try clear hb2)
      (try clear hk)
      (try clear hi)
      refine hK.out _ _ ⟨ct_ BK113.out 0, ct_ BK113.out 1⟩ (fun hHeld => ?_)
      clear hK K
      refine nm1_ (some 23) ?_
      exact norm_ nn_ (hJ3_7_19 (gb134) _ ⟨hHeld, HO_114001.out, BK110.out, BK113.out, BK134.out, GW134.out, GE134.out, NB0_134.out, NB134_0.out, NB110_134.out, NB134_110.out, NB113_134.out, NB134_113.out, HI0.out, HK.out, HB.out⟩)
     ·skip
      refine ls_ 30 3 [0, 0, 3, 8] [.int .i64 0, .int .i64 0, .int .i64 3, .int .i64 8] ?_
      intro v128 w25 ho26 hb hg_ hnew_
      clear hg_ hnew_
      (first | rw [← Ny127.out] at ho26 | (simp only [Int.reduceToNat] at ho26; rw [← Ny127.out] at ho26))
      replace HO_114001 := Aside0.mk (rB16 HO_114001.out hb)
      have HO129 := Aside0.mk (Kd.R_lower ho26 (keep_size (w := w) (g := g) (row := none) HK.out))
      replace BK110 := kb_ BK110 hb
      replace BK113 := kb_ BK113 hb
      replace HI0 := Aside0.mk (IsS44.below HI0.out hb)
      replace BK134 := kb_ BK134 hb
      replace HK := Aside0.mk (KeepBut.trans HK.out (KeepBut.of_below hb g none) (.inl rfl))
      replace HB := Aside0.mk (below_step HB.out hb)
      clear hb ho26
      refine hK.out _ _ ⟨ct_ BK113.out 0, ct_ BK113.out 1⟩ (fun hHeld => ?_)
      clear hK K
      refine nm1_ (some 30) ?_
      exact norm_ nn_ (hJ3_14_19 (v128, gb134) _ ⟨hHeld, HO129.out, HO_114001.out, BK110.out, BK113.out, BK134.out, GW134.out, GE134.out, NB0_134.out, NB134_0.out, NB110_134.out, NB134_110.out, NB113_134.out, NB134_113.out, HI0.out, HK.out, HB.out⟩)
    intro hJ3_19
    refine join_ (σ := Value × Nat) 9 z16_23 (fun s_ => [(30, s_.1), (5, .pointer (some ⟨s_.2, 0, none⟩))]) (fun s_ w' => (w'.cell? ⟨gb113, 0, none⟩ = some (.int .i64 (wrap64 (2 + t111))) ∧ w'.cell? ⟨gb113, 1, none⟩ = some (u114001)) ∧ (Kd.R (Kd.int .i64) 3 w' w.heap.size (fun _ => True) s_.1 y127) ∧ (Kd.R k33 33 w' w.heap.size (fun k_ => k_ ≠ s_.2) u114001 x114001_1) ∧ (w'.heap[gb110]? = some (.cells #[.int .i64 0, .slice none 0 0] 25 (0, 0))) ∧ (w'.heap[gb113]? = some (.cells #[.int .i64 (wrap64 (2 + t111)), u114001] 25 (0, 0))) ∧ (w'.heap[s_.2]? = some (.cells #[.int .i64 0, .int .i64 0, .int .i64 0, .int .i64 0, .int .i64 0] 33 (0, 0))) ∧ (w.heap.size ≤ s_.2) ∧ (w0.heap.size ≤ s_.2) ∧ (g ≠ s_.2) ∧ (s_.2 ≠ g) ∧ (gb110 ≠ s_.2) ∧ (s_.2 ≠ gb110) ∧ (gb113 ≠ s_.2) ∧ (s_.2 ≠ gb113) ∧ (IsS44 w0 w' g s0_0 x1001_1) ∧ (KeepBut w w' g none) ∧ (Below w0.heap.size w0 w')) ?_ ?_
    ·skip
     rintro ⟨v128, gb134⟩ w25 ⟨hS_, h0_, h1_, h2_, h3_, h4_, h5_, h6_, h7_, h8_, h9_, h10_, h11_, h12_, h13_, h14_, h15_⟩
     have HO129 : Aside0 (Kd.R (Kd.int .i64) 3 w25 w.heap.size (fun _ => True) v128 y127) := ⟨h0_⟩
     replace HO_114001 : Aside0 (Kd.R k33 33 w25 w.heap.size (fun k_ => k_ ≠ gb134) u114001 x114001_1) := ⟨h1_⟩
     replace BK110 : Aside0 (w25.heap[gb110]? = some (.cells #[.int .i64 0, .slice none 0 0] 25 (0, 0))) := ⟨h2_⟩
     replace BK113 : Aside0 (w25.heap[gb113]? = some (.cells #[.int .i64 (wrap64 (2 + t111)), u114001] 25 (0, 0))) := ⟨h3_⟩
     have BK134 : Aside0 (w25.heap[gb134]? = some (.cells #[.int .i64 0, .int .i64 0, .int .i64 0, .int .i64 0, .int .i64 0] 33 (0, 0))) := ⟨h4_⟩
     have GW134 : Aside0 (w.heap.size ≤ gb134) := ⟨h5_⟩
     have GE134 : Aside0 (w0.heap.size ≤ gb134) := ⟨h6_⟩
     have NB0_134 : Aside0 (g ≠ gb134) := ⟨h7_⟩
     have NB134_0 : Aside0 (gb134 ≠ g) := ⟨h8_⟩
     have NB110_134 : Aside0 (gb110 ≠ gb134) := ⟨h9_⟩
     have NB134_110 : Aside0 (gb134 ≠ gb110) := ⟨h10_⟩
     have NB113_134 : Aside0 (gb113 ≠ gb134) := ⟨h11_⟩
     have NB134_113 : Aside0 (gb134 ≠ gb113) := ⟨h12_⟩
     replace HI0 : Aside0 (IsS44 w0 w25 g s0_0 x1001_1) := ⟨h13_⟩
     replace HK : Aside0 (KeepBut w w25 g none) := ⟨h14_⟩
     replace HB : Aside0 (Below w0.heap.size w0 w25) := ⟨h15_⟩
     clear h0_ h1_ h2_ h3_ h4_ h5_ h6_ h7_ h8_ h9_ h10_ h11_ h12_ h13_ h14_ h15_
     have hHeld : w25.cell? ⟨gb113, 0, none⟩ = some (.int .i64 (wrap64 (2 + t111))) ∧ w25.cell? ⟨gb113, 1, none⟩ = some (u114001) := hS_
     refine nm2_ ?_
     refine one_ (i := 3) (N := some 19) z16_19 rfl rfl (one_of HT_.out (by kernel_rfl)) (by decide) (fun K hK => ?_)
     refine go_ Try.func17 #[.pointer (some ⟨g, 0, none⟩), .int .i64 (wrap64 (2 + t111))] ?_
     with_reducible refine (spec_l30Rd_pick.calls k1 g s0_0 x1001_1 (wrap64 (2 + t111)) t116 t117 w0 _ ?side1 ?side2 A12.out).mono ?_
     (case side1 => exact HI0.out)
     (case side2 => exact HB.out)
     rintro e w26 ⟨rfl, hi, hb, hk⟩
     refine ⟨_, rfl, ?_⟩
     replace HO_114001 := Aside0.mk (Kd.R_mono (Kd.R_keep (IsS44.apart (show IsS44 w0 _ g s0_0 x1001_1 from ni44_16 HI0.out) HO_114001.out (by decide)) hk (fun _ h => h.2)) (fun _ h => h.1))
     replace BK110 := kk_ BK110 hk NB110_0
     replace BK113 := kk_ BK113 hk NB113_0
     replace HO129 := Aside0.mk (Kd.R_mono (Kd.R_keep (IsS44.apart (show IsS44 w0 _ g s0_0 x1001_1 from ni44_16 HI0.out) HO129.out (by decide)) hk (fun _ h => h.2)) (fun _ h => h.1))
     replace BK134 := kk_ BK134 hk NB134_0
     replace HK := Aside0.mk (KeepBut.trans HK.out hk (.inl rfl))
     replace HB := Aside0.mk (hb)
     replace HI0 := Aside0.mk (hi)
     (try clear hb)
     (try clear hb2)
     (try clear hk)
     (try clear hi)
     refine hK.out _ _ ⟨ct_ BK113.out 0, ct_ BK113.out 1⟩ (fun hHeld => ?_)
     clear hK K
     refine nm1_ (some 19) ?_
     exact norm_ nn_ (hJ3_14_19 (v128, gb134) _ ⟨hHeld, HO129.out, HO_114001.out, BK110.out, BK113.out, BK134.out, GW134.out, GE134.out, NB0_134.out, NB134_0.out, NB110_134.out, NB134_110.out, NB113_134.out, NB134_113.out, HI0.out, HK.out, HB.out⟩)
    intro hJ14_19
    refine join_ (σ := Unit) 10 z16_24 (fun s_ => [(19, .int .i64 t116)]) (fun s_ w' => (w'.cell? ⟨gb113, 0, none⟩ = some (.int .i64 (wrap64 (2 + t111))) ∧ w'.cell? ⟨gb113, 1, none⟩ = some (u114001)) ∧ (Kd.R k33 33 w' w.heap.size (fun _ => True) u114001 x114001_1) ∧ (w'.heap[gb110]? = some (.cells #[.int .i64 0, .slice none 0 0] 25 (0, 0))) ∧ (w'.heap[gb113]? = some (.cells #[.int .i64 (wrap64 (2 + t111)), u114001] 25 (0, 0))) ∧ (IsS44 w0 w' g s0_0 t117) ∧ (KeepBut w w' g none) ∧ (Below w0.heap.size w0 w')) ?_ ?_
    ·skip
     rintro _ w23 ⟨hS_, h0_, h1_, h2_, h3_, h4_, h5_⟩
     replace HO_114001 : Aside0 (Kd.R k33 33 w23 w.heap.size (fun _ => True) u114001 x114001_1) := ⟨h0_⟩
     replace BK110 : Aside0 (w23.heap[gb110]? = some (.cells #[.int .i64 0, .slice none 0 0] 25 (0, 0))) := ⟨h1_⟩
     replace BK113 : Aside0 (w23.heap[gb113]? = some (.cells #[.int .i64 (wrap64 (2 + t111)), u114001] 25 (0, 0))) := ⟨h2_⟩
     replace HI0 : Aside0 (IsS44 w0 w23 g s0_0 t117) := ⟨h3_⟩
     replace HK : Aside0 (KeepBut w w23 g none) := ⟨h4_⟩
     replace HB : Aside0 (Below w0.heap.size w0 w23) := ⟨h5_⟩
     clear h0_ h1_ h2_ h3_ h4_ h5_
     have hHeld : w23.cell? ⟨gb113, 0, none⟩ = some (.int .i64 (wrap64 (2 + t111))) ∧ w23.cell? ⟨gb113, 1, none⟩ = some (u114001) := hS_
     refine nm2_ ?_
     refine three_ (i := 7) (j := 14) (k := 19) (Ni := some 23) (Nj := some 30) (Nk := some 5) z16_20 z16_21 z16_22 rfl rfl rfl rfl rfl rfl (three_of HT_.out (by kernel_rfl)) (by decide) (by decide) (by decide) (fun K hK => ?_) (fun K hK => ?_) (fun K hK => ?_)
     ·skip
      refine go_ Try.func17 #[.pointer (some ⟨g, 0, none⟩), .int .i64 (wrap64 (2 + t111))] ?_
      with_reducible refine (spec_l30Rd_pick.calls k1 g s0_0 t117 (wrap64 (2 + t111)) t118 t119 w0 _ ?side1 ?side2 A13.out).mono ?_
      (case side1 => exact HI0.out)
      (case side2 => exact HB.out)
      rintro e w24 ⟨rfl, hi, hb, hk⟩
      refine ⟨_, rfl, ?_⟩
      replace HO_114001 := Aside0.mk (Kd.R_mono (Kd.R_keep (IsS44.apart (show IsS44 w0 _ g s0_0 t117 from ni44_16 HI0.out) HO_114001.out (by decide)) hk (fun _ h => h.2)) (fun _ h => h.1))
      replace BK110 := kk_ BK110 hk NB110_0
      replace BK113 := kk_ BK113 hk NB113_0
      replace HK := Aside0.mk (KeepBut.trans HK.out hk (.inl rfl))
      replace HB := Aside0.mk (hb)
      replace HI0 := Aside0.mk (hi)
      (try clear hb)
      (try clear hb2)
      (try clear hk)
      (try clear hi)
      refine hK.out _ _ ⟨ct_ BK113.out 0, ct_ BK113.out 1⟩ (fun hHeld => ?_)
      clear hK K
      refine nm1_ (some 23) ?_
      exact norm_ nn_ (hJ3_7 () _ ⟨hHeld, HO_114001.out, BK110.out, BK113.out, HI0.out, HK.out, HB.out⟩)
     ·skip
      refine ls_ 30 3 [0, 0, 3, 8] [.int .i64 0, .int .i64 0, .int .i64 3, .int .i64 8] ?_
      intro v128 w24 ho25 hb hg_ hnew_
      clear hg_ hnew_
      (first | rw [← Ny127.out] at ho25 | (simp only [Int.reduceToNat] at ho25; rw [← Ny127.out] at ho25))
      replace HO_114001 := Aside0.mk (rB16 HO_114001.out hb)
      have HO129 := Aside0.mk (Kd.R_lower ho25 (keep_size (w := w) (g := g) (row := none) HK.out))
      replace BK110 := kb_ BK110 hb
      replace BK113 := kb_ BK113 hb
      replace HI0 := Aside0.mk (IsS44.below HI0.out hb)
      replace HK := Aside0.mk (KeepBut.trans HK.out (KeepBut.of_below hb g none) (.inl rfl))
      replace HB := Aside0.mk (below_step HB.out hb)
      clear hb ho25
      refine hK.out _ _ ⟨ct_ BK113.out 0, ct_ BK113.out 1⟩ (fun hHeld => ?_)
      clear hK K
      refine nm1_ (some 30) ?_
      exact norm_ nn_ (hJ3_14 (v128) _ ⟨hHeld, HO129.out, HO_114001.out, BK110.out, BK113.out, HI0.out, HK.out, HB.out⟩)
     ·skip
      refine bs_ 5 #[.int .i64 0, .int .i64 0, .int .i64 0, .int .i64 0, .int .i64 0] 33 ?_
      intro gb134 hg w24 hbox hb
      replace HO_114001 := Aside0.mk (rB16 (Kd.R_elderB HO_114001.out gb134 (Nat.le_of_eq hg.symm)) hb)
      replace HB := Aside0.mk (below_step HB.out hb)
      have BK134 := Aside0.mk (hbox)
      have GW134 := Aside0.mk ((by rw [hg]; exact (keep_size (w := w) (g := g) (row := none) HK.out) : w.heap.size ≤ gb134))
      have GE134 := Aside0.mk ((Nat.le_trans HW0.out (by rw [hg]; exact (keep_size (w := w) (g := g) (row := none) HK.out) : w.heap.size ≤ gb134) : w0.heap.size ≤ gb134))
      replace HK := Aside0.mk (KeepBut.trans HK.out (KeepBut.of_below hb g none) (.inl rfl))
      have NB110_134 := Aside0.mk (nl_ BK110.out hg)
      have NB134_110 := Aside0.mk (nm_ BK110.out hg)
      replace BK110 := kb_ BK110 hb
      have NB113_134 := Aside0.mk (nl_ BK113.out hg)
      have NB134_113 := Aside0.mk (nm_ BK113.out hg)
      replace BK113 := kb_ BK113 hb
      have NB0_134 := Aside0.mk ((by rw [hg]; exact Nat.ne_of_lt (IsS44.lt (show IsS44 w0 _ g s0_0 t117 from ni44_16 HI0.out)) : g ≠ gb134))
      have NB134_0 := Aside0.mk ((by rw [hg]; exact Nat.ne_of_gt (IsS44.lt (show IsS44 w0 _ g s0_0 t117 from ni44_16 HI0.out)) : gb134 ≠ g))
      replace HI0 := Aside0.mk (IsS44.below HI0.out hb)
      clear hb hbox hg
      refine hK.out _ _ ⟨ct_ BK113.out 0, ct_ BK113.out 1⟩ (fun hHeld => ?_)
      clear hK K
      refine nm1_ (some 5) ?_
      exact norm_ nn_ (hJ3_19 (gb134) _ ⟨hHeld, (by (with_reducible repeat (first | apply rA16 | apply rN16 | apply Kd.R_drew)); exact Kd.R_mono HO_114001.out (fun _ hk => by first | exact hk.2 | trivial | simp_all)), BK110.out, BK113.out, BK134.out, GW134.out, GE134.out, NB0_134.out, NB134_0.out, NB110_134.out, NB134_110.out, NB113_134.out, NB134_113.out, HI0.out, HK.out, HB.out⟩)
    intro hJ3
    refine join_ (σ := Value) 10 z16_25 (fun s_ => [(30, s_)]) (fun s_ w' => (w'.cell? ⟨gb113, 0, none⟩ = some (.int .i64 (wrap64 (2 + t111))) ∧ w'.cell? ⟨gb113, 1, none⟩ = some (u114001)) ∧ (Kd.R (Kd.int .i64) 3 w' w.heap.size (fun _ => True) s_ y127) ∧ (Kd.R k33 33 w' w.heap.size (fun _ => True) u114001 x114001_1) ∧ (w'.heap[gb110]? = some (.cells #[.int .i64 0, .slice none 0 0] 25 (0, 0))) ∧ (w'.heap[gb113]? = some (.cells #[.int .i64 (wrap64 (2 + t111)), u114001] 25 (0, 0))) ∧ (IsS44 w0 w' g s0_0 x1001_1) ∧ (KeepBut w w' g none) ∧ (Below w0.heap.size w0 w')) ?_ ?_
    ·skip
     rintro v128 w24 ⟨hS_, h0_, h1_, h2_, h3_, h4_, h5_, h6_⟩
     have HO129 : Aside0 (Kd.R (Kd.int .i64) 3 w24 w.heap.size (fun _ => True) v128 y127) := ⟨h0_⟩
     replace HO_114001 : Aside0 (Kd.R k33 33 w24 w.heap.size (fun _ => True) u114001 x114001_1) := ⟨h1_⟩
     replace BK110 : Aside0 (w24.heap[gb110]? = some (.cells #[.int .i64 0, .slice none 0 0] 25 (0, 0))) := ⟨h2_⟩
     replace BK113 : Aside0 (w24.heap[gb113]? = some (.cells #[.int .i64 (wrap64 (2 + t111)), u114001] 25 (0, 0))) := ⟨h3_⟩
     replace HI0 : Aside0 (IsS44 w0 w24 g s0_0 x1001_1) := ⟨h4_⟩
     replace HK : Aside0 (KeepBut w w24 g none) := ⟨h5_⟩
     replace HB : Aside0 (Below w0.heap.size w0 w24) := ⟨h6_⟩
     clear h0_ h1_ h2_ h3_ h4_ h5_ h6_
     have hHeld : w24.cell? ⟨gb113, 0, none⟩ = some (.int .i64 (wrap64 (2 + t111))) ∧ w24.cell? ⟨gb113, 1, none⟩ = some (u114001) := hS_
     refine nm2_ ?_
     refine two_ (i := 3) (j := 19) (Ni := some 19) (Nj := some 5) z16_21 z16_23 rfl rfl rfl rfl (two_of HT_.out (by kernel_rfl)) (by decide) (by decide) (fun K hK => ?_) (fun K hK => ?_)
     ·skip
      refine go_ Try.func17 #[.pointer (some ⟨g, 0, none⟩), .int .i64 (wrap64 (2 + t111))] ?_
      with_reducible refine (spec_l30Rd_pick.calls k1 g s0_0 x1001_1 (wrap64 (2 + t111)) t116 t117 w0 _ ?side1 ?side2 A12.out).mono ?_
      (case side1 => exact HI0.out)
      (case side2 => exact HB.out)
      rintro e w25 ⟨rfl, hi, hb, hk⟩
      refine ⟨_, rfl, ?_⟩
      replace HO_114001 := Aside0.mk (Kd.R_mono (Kd.R_keep (IsS44.apart (show IsS44 w0 _ g s0_0 x1001_1 from ni44_16 HI0.out) HO_114001.out (by decide)) hk (fun _ h => h.2)) (fun _ h => h.1))
      replace BK110 := kk_ BK110 hk NB110_0
      replace BK113 := kk_ BK113 hk NB113_0
      replace HO129 := Aside0.mk (Kd.R_mono (Kd.R_keep (IsS44.apart (show IsS44 w0 _ g s0_0 x1001_1 from ni44_16 HI0.out) HO129.out (by decide)) hk (fun _ h => h.2)) (fun _ h => h.1))
      replace HK := Aside0.mk (KeepBut.trans HK.out hk (.inl rfl))
      replace HB := Aside0.mk (hb)
      replace HI0 := Aside0.mk (hi)
      (try clear hb)
      (try clear hb2)
      (try clear hk)
      (try clear hi)
      refine hK.out _ _ ⟨ct_ BK113.out 0, ct_ BK113.out 1⟩ (fun hHeld => ?_)
      clear hK K
      refine nm1_ (some 19) ?_
      exact norm_ nn_ (hJ3_14 (v128) _ ⟨hHeld, HO129.out, HO_114001.out, BK110.out, BK113.out, HI0.out, HK.out, HB.out⟩)
     ·skip
      refine bs_ 5 #[.int .i64 0, .int .i64 0, .int .i64 0, .int .i64 0, .int .i64 0] 33 ?_
      intro gb134 hg w25 hbox hb
      replace HO_114001 := Aside0.mk (rB16 (Kd.R_elderB HO_114001.out gb134 (Nat.le_of_eq hg.symm)) hb)
      replace HO129 := Aside0.mk (rB16 HO129.out hb)
      replace HB := Aside0.mk (below_step HB.out hb)
      have BK134 := Aside0.mk (hbox)
      have GW134 := Aside0.mk ((by rw [hg]; exact (keep_size (w := w) (g := g) (row := none) HK.out) : w.heap.size ≤ gb134))
      have GE134 := Aside0.mk ((Nat.le_trans HW0.out (by rw [hg]; exact (keep_size (w := w) (g := g) (row := none) HK.out) : w.heap.size ≤ gb134) : w0.heap.size ≤ gb134))
      replace HK := Aside0.mk (KeepBut.trans HK.out (KeepBut.of_below hb g none) (.inl rfl))
      have NB110_134 := Aside0.mk (nl_ BK110.out hg)
      have NB134_110 := Aside0.mk (nm_ BK110.out hg)
      replace BK110 := kb_ BK110 hb
      have NB113_134 := Aside0.mk (nl_ BK113.out hg)
      have NB134_113 := Aside0.mk (nm_ BK113.out hg)
      replace BK113 := kb_ BK113 hb
      have NB0_134 := Aside0.mk ((by rw [hg]; exact Nat.ne_of_lt (IsS44.lt (show IsS44 w0 _ g s0_0 x1001_1 from ni44_16 HI0.out)) : g ≠ gb134))
      have NB134_0 := Aside0.mk ((by rw [hg]; exact Nat.ne_of_gt (IsS44.lt (show IsS44 w0 _ g s0_0 x1001_1 from ni44_16 HI0.out)) : gb134 ≠ g))
      replace HI0 := Aside0.mk (IsS44.below HI0.out hb)
      clear hb hbox hg
      refine hK.out _ _ ⟨ct_ BK113.out 0, ct_ BK113.out 1⟩ (fun hHeld => ?_)
      clear hK K
      refine nm1_ (some 5) ?_
      exact norm_ nn_ (hJ14_19 (v128, gb134) _ ⟨hHeld, HO129.out, (by (with_reducible repeat (first | apply rA16 | apply rN16 | apply Kd.R_drew)); exact Kd.R_mono HO_114001.out (fun _ hk => by first | exact hk.2 | trivial | simp_all)), BK110.out, BK113.out, BK134.out, GW134.out, GE134.out, NB0_134.out, NB134_0.out, NB110_134.out, NB134_110.out, NB113_134.out, NB134_113.out, HI0.out, HK.out, HB.out⟩)
    intro hJ14
    refine join_ (σ := Nat) 10 z16_26 (fun s_ => [(5, .pointer (some ⟨s_, 0, none⟩))]) (fun s_ w' => (w'.cell? ⟨gb113, 0, none⟩ = some (.int .i64 (wrap64 (2 + t111))) ∧ w'.cell? ⟨gb113, 1, none⟩ = some (u114001)) ∧ (Kd.R k33 33 w' w.heap.size (fun k_ => k_ ≠ s_) u114001 x114001_1) ∧ (w'.heap[gb110]? = some (.cells #[.int .i64 0, .slice none 0 0] 25 (0, 0))) ∧ (w'.heap[gb113]? = some (.cells #[.int .i64 (wrap64 (2 + t111)), u114001] 25 (0, 0))) ∧ (w'.heap[s_]? = some (.cells #[.int .i64 0, .int .i64 0, .int .i64 0, .int .i64 0, .int .i64 0] 33 (0, 0))) ∧ (w.heap.size ≤ s_) ∧ (w0.heap.size ≤ s_) ∧ (g ≠ s_) ∧ (s_ ≠ g) ∧ (gb110 ≠ s_) ∧ (s_ ≠ gb110) ∧ (gb113 ≠ s_) ∧ (s_ ≠ gb113) ∧ (IsS44 w0 w' g s0_0 x1001_1) ∧ (KeepBut w w' g none) ∧ (Below w0.heap.size w0 w')) ?_ ?_
    ·skip
     rintro gb134 w23 ⟨hS_, h0_, h1_, h2_, h3_, h4_, h5_, h6_, h7_, h8_, h9_, h10_, h11_, h12_, h13_, h14_⟩
     replace HO_114001 : Aside0 (Kd.R k33 33 w23 w.heap.size (fun k_ => k_ ≠ gb134) u114001 x114001_1) := ⟨h0_⟩
     replace BK110 : Aside0 (w23.heap[gb110]? = some (.cells #[.int .i64 0, .slice none 0 0] 25 (0, 0))) := ⟨h1_⟩
     replace BK113 : Aside0 (w23.heap[gb113]? = some (.cells #[.int .i64 (wrap64 (2 + t111)), u114001] 25 (0, 0))) := ⟨h2_⟩
     have BK134 : Aside0 (w23.heap[gb134]? = some (.cells #[.int .i64 0, .int .i64 0, .int .i64 0, .int .i64 0, .int .i64 0] 33 (0, 0))) := ⟨h3_⟩
     have GW134 : Aside0 (w.heap.size ≤ gb134) := ⟨h4_⟩
     have GE134 : Aside0 (w0.heap.size ≤ gb134) := ⟨h5_⟩
     have NB0_134 : Aside0 (g ≠ gb134) := ⟨h6_⟩
     have NB134_0 : Aside0 (gb134 ≠ g) := ⟨h7_⟩
     have NB110_134 : Aside0 (gb110 ≠ gb134) := ⟨h8_⟩
     have NB134_110 : Aside0 (gb134 ≠ gb110) := ⟨h9_⟩
     have NB113_134 : Aside0 (gb113 ≠ gb134) := ⟨h10_⟩
     have NB134_113 : Aside0 (gb134 ≠ gb113) := ⟨h11_⟩
     replace HI0 : Aside0 (IsS44 w0 w23 g s0_0 x1001_1) := ⟨h12_⟩
     replace HK : Aside0 (KeepBut w w23 g none) := ⟨h13_⟩
     replace HB : Aside0 (Below w0.heap.size w0 w23) := ⟨h14_⟩
     clear h0_ h1_ h2_ h3_ h4_ h5_ h6_ h7_ h8_ h9_ h10_ h11_ h12_ h13_ h14_
     have hHeld : w23.cell? ⟨gb113, 0, none⟩ = some (.int .i64 (wrap64 (2 + t111))) ∧ w23.cell? ⟨gb113, 1, none⟩ = some (u114001) := hS_
     refine nm2_ ?_
     refine two_ (i := 3) (j := 14) (Ni := some 19) (Nj := some 30) z16_22 z16_23 rfl rfl rfl rfl (two_of HT_.out (by kernel_rfl)) (by decide) (by decide) (fun K hK => ?_) (fun K hK => ?_)
     ·skip
      refine go_ Try.func17 #[.pointer (some ⟨g, 0, none⟩), .int .i64 (wrap64 (2 + t111))] ?_
      with_reducible refine (spec_l30Rd_pick.calls k1 g s0_0 x1001_1 (wrap64 (2 + t111)) t116 t117 w0 _ ?side1 ?side2 A12.out).mono ?_
      (case side1 => exact HI0.out)
      (case side2 => exact HB.out)
      rintro e w24 ⟨rfl, hi, hb, hk⟩
      refine ⟨_, rfl, ?_⟩
      replace HO_114001 := Aside0.mk (Kd.R_mono (Kd.R_keep (IsS44.apart (show IsS44 w0 _ g s0_0 x1001_1 from ni44_16 HI0.out) HO_114001.out (by decide)) hk (fun _ h => h.2)) (fun _ h => h.1))
      replace BK110 := kk_ BK110 hk NB110_0
      replace BK113 := kk_ BK113 hk NB113_0
      replace BK134 := kk_ BK134 hk NB134_0
      replace HK := Aside0.mk (KeepBut.trans HK.out hk (.inl rfl))
      replace HB := Aside0.mk (hb)
      replace HI0 := Aside0.mk (hi)
      (try clear hb)
      (try clear hb2)
      (try clear hk)
      (try clear hi)
      refine hK.out _ _ ⟨ct_ BK113.out 0, ct_ BK113.out 1⟩ (fun hHeld => ?_)
      clear hK K
      refine nm1_ (some 19) ?_
      exact norm_ nn_ (hJ3_19 (gb134) _ ⟨hHeld, HO_114001.out, BK110.out, BK113.out, BK134.out, GW134.out, GE134.out, NB0_134.out, NB134_0.out, NB110_134.out, NB134_110.out, NB113_134.out, NB134_113.out, HI0.out, HK.out, HB.out⟩)
     ·skip
      refine ls_ 30 3 [0, 0, 3, 8] [.int .i64 0, .int .i64 0, .int .i64 3, .int .i64 8] ?_
      intro v128 w24 ho25 hb hg_ hnew_
      clear hg_ hnew_
      (first | rw [← Ny127.out] at ho25 | (simp only [Int.reduceToNat] at ho25; rw [← Ny127.out] at ho25))
      replace HO_114001 := Aside0.mk (rB16 HO_114001.out hb)
      have HO129 := Aside0.mk (Kd.R_lower ho25 (keep_size (w := w) (g := g) (row := none) HK.out))
      replace BK110 := kb_ BK110 hb
      replace BK113 := kb_ BK113 hb
      replace HI0 := Aside0.mk (IsS44.below HI0.out hb)
      replace BK134 := kb_ BK134 hb
      replace HK := Aside0.mk (KeepBut.trans HK.out (KeepBut.of_below hb g none) (.inl rfl))
      replace HB := Aside0.mk (below_step HB.out hb)
      clear hb ho25
      refine hK.out _ _ ⟨ct_ BK113.out 0, ct_ BK113.out 1⟩ (fun hHeld => ?_)
      clear hK K
      refine nm1_ (some 30) ?_
      exact norm_ nn_ (hJ14_19 (v128, gb134) _ ⟨hHeld, HO129.out, HO_114001.out, BK110.out, BK113.out, BK134.out, GW134.out, GE134.out, NB0_134.out, NB134_0.out, NB110_134.out, NB134_110.out, NB113_134.out, NB134_113.out, HI0.out, HK.out, HB.out⟩)
    intro hJ19
    refine three_ (i := 3) (j := 14) (k := 19) (Ni := some 19) (Nj := some 30) (Nk := some 5) z16_24 z16_25 z16_26 rfl rfl rfl rfl rfl rfl (three_of HT_.out (by kernel_rfl)) (by decide) (by decide) (by decide) (fun K hK => ?_) (fun K hK => ?_) (fun K hK => ?_)
    ·skip
     refine go_ Try.func17 #[.pointer (some ⟨g, 0, none⟩), .int .i64 (wrap64 (2 + t111))] ?_
     with_reducible refine (spec_l30Rd_pick.calls k1 g s0_0 x1001_1 (wrap64 (2 + t111)) t116 t117 w0 _ ?side1 ?side2 A12.out).mono ?_
     (case side1 => exact HI0.out)
     (case side2 => exact HB.out)
     rintro e w22 ⟨rfl, hi, hb, hk⟩
     refine ⟨_, rfl, ?_⟩
     replace HO_114001 := Aside0.mk (Kd.R_mono (Kd.R_keep (IsS44.apart (show IsS44 w0 _ g s0_0 x1001_1 from ni44_16 HI0.out) HO_114001.out (by decide)) hk (fun _ h => h.2)) (fun _ h => h.1))
     replace BK110 := kk_ BK110 hk NB110_0
     replace BK113 := kk_ BK113 hk NB113_0
     replace HK := Aside0.mk (KeepBut.trans HK.out hk (.inl rfl))
     replace HB := Aside0.mk (hb)
     replace HI0 := Aside0.mk (hi)
     (try clear hb)
     (try clear hb2)
     (try clear hk)
     (try clear hi)
     refine hK.out _ _ ⟨ct_ BK113.out 0, ct_ BK113.out 1⟩ (fun hHeld => ?_)
     clear hK K
     refine nm1_ (some 19) ?_
     exact norm_ nn_ (hJ3 () _ ⟨hHeld, HO_114001.out, BK110.out, BK113.out, HI0.out, HK.out, HB.out⟩)
    ·skip
     refine ls_ 30 3 [0, 0, 3, 8] [.int .i64 0, .int .i64 0, .int .i64 3, .int .i64 8] ?_
     intro v128 w22 ho23 hb hg_ hnew_
     clear hg_ hnew_
     (first | rw [← Ny127.out] at ho23 | (simp only [Int.reduceToNat] at ho23; rw [← Ny127.out] at ho23))
     replace HO_114001 := Aside0.mk (rB16 HO_114001.out hb)
     have HO129 := Aside0.mk (Kd.R_lower ho23 (keep_size (w := w) (g := g) (row := none) HK.out))
     replace BK110 := kb_ BK110 hb
     replace BK113 := kb_ BK113 hb
     replace HI0 := Aside0.mk (IsS44.below HI0.out hb)
     replace HK := Aside0.mk (KeepBut.trans HK.out (KeepBut.of_below hb g none) (.inl rfl))
     replace HB := Aside0.mk (below_step HB.out hb)
     clear hb ho23
     refine hK.out _ _ ⟨ct_ BK113.out 0, ct_ BK113.out 1⟩ (fun hHeld => ?_)
     clear hK K
     refine nm1_ (some 30) ?_
     exact norm_ nn_ (hJ14 (v128) _ ⟨hHeld, HO129.out, HO_114001.out, BK110.out, BK113.out, HI0.out, HK.out, HB.out⟩)
    ·skip
     refine bs_ 5 #[.int .i64 0, .int .i64 0, .int .i64 0, .int .i64 0, .int .i64 0] 33 ?_
     intro gb134 hg w22 hbox hb
     replace HO_114001 := Aside0.mk (rB16 (Kd.R_elderB HO_114001.out gb134 (Nat.le_of_eq hg.symm)) hb)
     replace HB := Aside0.mk (below_step HB.out hb)
     have BK134 := Aside0.mk (hbox)
     have GW134 := Aside0.mk ((by rw [hg]; exact (keep_size (w := w) (g := g) (row := none) HK.out) : w.heap.size ≤ gb134))
     have GE134 := Aside0.mk ((Nat.le_trans HW0.out (by rw [hg]; exact (keep_size (w := w) (g := g) (row := none) HK.out) : w.heap.size ≤ gb134) : w0.heap.size ≤ gb134))
     replace HK := Aside0.mk (KeepBut.trans HK.out (KeepBut.of_below hb g none) (.inl rfl))
     have NB110_134 := Aside0.mk (nl_ BK110.out hg)
     have NB134_110 := Aside0.mk (nm_ BK110.out hg)
     replace BK110 := kb_ BK110 hb
     have NB113_134 := Aside0.mk (nl_ BK113.out hg)
     have NB134_113 := Aside0.mk (nm_ BK113.out hg)
     replace BK113 := kb_ BK113 hb
     have NB0_134 := Aside0.mk ((by rw [hg]; exact Nat.ne_of_lt (IsS44.lt (show IsS44 w0 _ g s0_0 x1001_1 from ni44_16 HI0.out)) : g ≠ gb134))
     have NB134_0 := Aside0.mk ((by rw [hg]; exact Nat.ne_of_gt (IsS44.lt (show IsS44 w0 _ g s0_0 x1001_1 from ni44_16 HI0.out)) : gb134 ≠ g))
     replace HI0 := Aside0.mk (IsS44.below HI0.out hb)
     clear hb hbox hg
     refine hK.out _ _ ⟨ct_ BK113.out 0, ct_ BK113.out 1⟩ (fun hHeld => ?_)
     clear hK K
     refine nm1_ (some 5) ?_
     exact norm_ nn_ (hJ19 (gb134) _ ⟨hHeld, (by (with_reducible repeat (first | apply rA16 | apply rN16 | apply Kd.R_drew)); exact Kd.R_mono HO_114001.out (fun _ hk => by first | exact hk.2 | trivial | simp_all)), BK110.out, BK113.out, BK134.out, GW134.out, GE134.out, NB0_134.out, NB134_0.out, NB110_134.out, NB134_110.out, NB113_134.out, NB134_113.out, HI0.out, HK.out, HB.out⟩)
end Go.Proofs.Ytahcomglicodlaa.Print
