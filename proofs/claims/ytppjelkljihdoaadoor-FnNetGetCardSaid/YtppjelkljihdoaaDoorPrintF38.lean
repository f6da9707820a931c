-- Made by this session's own program (wip/patch_print.py, over the kit's print). Lean checks it.
import Derived.Test.YtppjelkljihdoaaDoorPrint0
import Derived.Test.YtppjelkljihdoaaDoorPrintF39
import Derived.Test.YtppjelkljihdoaaDoorPrintF48
namespace Go.Proofs.YtppjelkljihdoaaDoor.Print
open Go.RowKit Go.Proofs.YtppjelkljihdoaaDoorW.PrintWords Go.Proofs.YtppjelkljihdoaaDoorW.PrintLast Go.Proofs.YtppjelkljihdoaaDoorW.PrintMore Go.Proofs.YtppjelkljihdoaaDoorX
attribute [local go_sem] max2_int min2_int max_two min_two max_three min_three max_four min_four   -- for this text's walks alone
set_option linter.unusedVariables false
set_option linter.unusedSimpArgs false

abbrev z38_0 := bm_ 21 1048575
abbrev z38_1 := bm_ 21 524287
abbrev z38_2 := bm_ 21 655359
abbrev z38_3 := bm_ 21 131071
abbrev z38_4 := bm_ 21 622591
abbrev z38_5 := bm_ 21 98303
abbrev z38_6 := bm_ 21 606207
abbrev z38_7 := bm_ 21 618495
abbrev z38_8 := bm_ 21 81919
abbrev z38_9 := bm_ 21 94207
abbrev z38_10 := bm_ 21 602111
abbrev z38_11 := bm_ 21 616447
abbrev z38_12 := bm_ 21 77823
abbrev z38_13 := bm_ 21 92159
abbrev z38_14 := bm_ 21 600063
abbrev z38_15 := bm_ 21 615423
abbrev z38_16 := bm_ 21 75775
abbrev z38_17 := bm_ 21 91135
abbrev z38_18 := bm_ 21 599039
abbrev z38_19 := bm_ 21 615295
abbrev z38_20 := bm_ 21 74751
abbrev z38_21 := bm_ 21 91007
abbrev z38_22 := bm_ 21 598911
abbrev z38_23 := bm_ 21 615287
abbrev z38_24 := bm_ 21 74623
abbrev z38_25 := bm_ 21 90999
abbrev z38_26 := bm_ 21 598903
abbrev rA38 := @Kd.R_alloc
abbrev rN38 := @Kd.R_drewN
abbrev rB38 := @Kd.R_below
theorem ng79_38 {B : Nat} {w W W' : World} (h : Below B w W) (e : Below B w W → Below B w W' := by intro h_; repeat (first | (with_reducible first | exact h_ | apply below_alloc | apply pw_below_drewN | apply below_drew1 | refine below_set ?_ (IsS79.ge (Aside0.out (by with_reducible assumption))) | refine below_set ?_ (Aside0.out (by with_reducible assumption))) | exact h_)) : Below B w W' := e h
theorem ni79_38 {p q : Prop} (h : p) (e : p → q := by intro h_; repeat (first | (with_reducible first | exact h_ | apply IsS79.alloc | apply IsS79.drewN | apply IsS79.drew | apply IsS79.set_1 | refine IsS79.far ?_ (Aside0.out (by with_reducible assumption)) _) | exact h_)) : q := e h
attribute [local go_sem ↓] Go.Proofs.YtppjelkljihdoaaDoorX.isSome_set
/-! ### spec_l30Net: function 38 -/
def spec_l30Net.l0 : Nat → Int → List Int → Int → Int → List (S54) → Option (Int × (List (S54)) × Int)
  | 0, _, _, _, _, _ => none
  | k + 1, x4, x1000, x1001, x111000, x111001 => if x4 > 0 then ((spec_l30Rd_pick.f k x1000 x1001 x111000).bind fun bt113 => ((spec_l30Rd_pick.f k x1000 bt113.2 x111000).bind fun bt115 => ((spec_l30Rd_pick.f k x1000 bt115.2 100).bind fun bt117 => ((spec_l30Rd_one.f k x1000 bt117.2 (([0, 1, 2, 5, 9, bt117.1] : List Int))).bind fun bt122 => ((spec_l30Rd_one.f k x1000 bt122.2 (([0, 0, 3, 8] : List Int))).bind fun bt127 => ((spec_l30Rd_pick.f k x1000 bt127.2 10).bind fun bt129 => (if bt113.1 = bt115.1 then (if x111000 = 0 then (none) else (if x111001.length < 3518437208883 then (spec_l30Net.l0 k (wrap64 (x4 - 1)) x1000 bt129.2 x111000 (x111001 ++ [(⟨bt113.1, Int.tmod (wrap64 (bt115.1 + 1)) x111000, bt122.1, bt127.1, bt129.1⟩ : S54)])) else (none))) else (if x111001.length < 3518437208883 then (spec_l30Net.l0 k (wrap64 (x4 - 1)) x1000 bt129.2 x111000 (x111001 ++ [(⟨bt113.1, bt115.1, bt122.1, bt127.1, bt129.1⟩ : S54)])) else (none))))))))) else (some (x111000, x111001, x1001))
def spec_l30Net.f (k : Nat) (s0_0 : List Int) (s0_1 : Int) : Option (Int × (List (S54)) × Int) := (spec_l30Rd_pick.f k s0_0 s0_1 5).bind fun bt108 => ((spec_l30Rd_pick.f k s0_0 bt108.2 14).bind fun bt111 => (spec_l30Net.l0 k bt111.1 s0_0 bt111.2 (wrap64 (2 + bt108.1)) ([] : List (S54))))
theorem spec_l30Net.mono_l : ∀ k, (∀ y0 y1 y2 y3 y4, LeO (spec_l30Net.l0 k y0 y1 y2 y3 y4) (spec_l30Net.l0 (k + 1) y0 y1 y2 y3 y4))
  | 0 => fun _ _ _ _ _ r h => by simp [spec_l30Net.l0] at h
  | k + 1 => by
    have ih0 := spec_l30Net.mono_l k
    · intro y0 y1 y2 y3 y4
      unfold spec_l30Net.l0
      repeat' first | (with_reducible first | exact ih0 _ _ _ _ _ | exact spec_l30Rd_one.mono _ _ _ _ | exact spec_l30Rd_pick.mono _ _ _ _ | exact LeO.refl _ | exact LeO.none _ | refine LeO.ite ?_ ?_ | refine LeO.bind ?_ (fun _ => ?_)) | exact ih0 _ _ _ _ _ | exact spec_l30Rd_one.mono _ _ _ _ | exact spec_l30Rd_pick.mono _ _ _ _ | exact LeO.none _ | refine LeO.ite ?_ ?_ | refine LeO.bind ?_ (fun _ => ?_)
theorem spec_l30Net.mono : ∀ a0 a1 k, LeO (spec_l30Net.f k a0 a1) (spec_l30Net.f (k + 1) a0 a1) := by
  intro a0 a1 k
  have ih0 := spec_l30Net.mono_l k
  unfold spec_l30Net.f
  repeat' first | (with_reducible first | exact ih0 _ _ _ _ _ | exact spec_l30Rd_one.mono _ _ _ _ | exact spec_l30Rd_pick.mono _ _ _ _ | exact LeO.refl _ | exact LeO.none _ | refine LeO.ite ?_ ?_ | refine LeO.bind ?_ (fun _ => ?_)) | exact ih0 _ _ _ _ _ | exact spec_l30Rd_one.mono _ _ _ _ | exact spec_l30Rd_pick.mono _ _ _ _ | exact LeO.none _ | refine LeO.ite ?_ ?_ | refine LeO.bind ?_ (fun _ => ?_)
def spec_l30Net.T5 : Bool × List (List Nat × List Nat) := (true, [([], []), ([], []), ([1], [1]), ([0, 2], [0, 2]), ([], []), ([], []), ([5], [5]), ([4, 6, 3], [4, 6]), ([], []), ([], []), ([9, 7], [9]), ([10], [10]), ([8, 11, 10], [8, 11]), ([], []), ([], []), ([13, 14, 12], [13, 14]), ([], []), ([16, 15], [16]), ([3, 7, 12, 15, 17], [3, 7, 12, 15, 17]), ([], []), ([19, 18, 17, 0, 1, 2, 3, 4, 5, 6, 7, 8, 9, 10, 11, 12, 13, 14, 15, 16, 17, 18, 19], [18, 19])])
def spec_l30Net.B5 : List Nat := [0, 0, 2, 7, 0, 0, 32, 127, 0, 0, 767, 1791, 4095, 0, 0, 32767, 0, 131071, 262143, 0, 1048575]
theorem spec_l30Net.tab5 : rtab .any (opsOf Tryd.f38 5) = spec_l30Net.T5 := by kernel_rfl
theorem spec_l30Net.bits5 : waitsOk spec_l30Net.T5.2 spec_l30Net.B5 = true := by kernel_rfl
set_option maxHeartbeats 200000000 in
set_option maxRecDepth 100000 in
theorem spec_l30Net.calls (k : Nat) (g : Nat) (s0_0 : List Int) (s0_1 : Int) (r1 : Int) (r2 : List (S54)) (r3 : Int) (w0 w : World) (hI : IsS79 w0 w g s0_0 s0_1) (hB : Below w0.heap.size w0 w) (h : spec_l30Net.f k s0_0 s0_1 = some (r1, r2, r3)) :
    Calls Tryd.prog 38 #[.pointer (some ⟨g, 0, none⟩)] w fun e w' => ∃ v1_ : Value, e = .returned (.agg #[.int .i64 r1, v1_]) ∧ Kd.R k54 54 w' w.heap.size (fun _ => True) v1_ r2 ∧ IsS79 w0 w' g s0_0 r3 ∧ Below w0.heap.size w0 w' ∧ KeepBut w w' g none := by
  have hu25 := Tryd.underlying25
  have hu54 := Tryd.underlying54
  have HI0 := Aside0.mk hI
  have HK := Aside0.mk (KeepBut.refl w g none)
  have HL := Aside0.mk hB.size
  clear hI
  have HW0 := Aside0.mk hB.size
  have HB := Aside0.mk hB
  clear hB
  have H : ((spec_l30Rd_pick.f k s0_0 s0_1 5).bind fun bt108 => ((spec_l30Rd_pick.f k s0_0 bt108.2 14).bind fun bt111 => (spec_l30Net.l0 k bt111.1 s0_0 bt111.2 (wrap64 (2 + bt108.1)) ([] : List (S54))))) = some (r1, r2, r3) := h
  clear h
  replace H := Option.bind_eq_some_iff.mp H
  obtain ⟨⟨t108, t109⟩, A20, H⟩ := H
  try dsimp only at H
  have A2 := Aside0.mk A20
  clear A20
  replace H := Option.bind_eq_some_iff.mp H
  obtain ⟨⟨t111, t112⟩, A30, H⟩ := H
  replace H : (spec_l30Net.l0 k t111 s0_0 t112 (wrap64 (2 + t108)) ([] : List (S54))) = some (r1, r2, r3) := H
  have A3 := Aside0.mk A30
  clear A30
  have H' := Aside0.mk H
  clear H
  go_enter Tryd.func38, Tryd.ntmps38
  go_wp2_with (first | ((with_reducible refine gate_dst (N := 2) rfl ?_); refine bx_ 2 #[.int .i64 0, .slice none 0 0] 25 ?_; intro gb107 hg w4 hbox hb; have BK107 := Aside0.mk (hbox); have GW107 := Aside0.mk (zk_ hg (nk_ HK.out)); have GE107 := Aside0.mk ((Nat.le_trans HW0.out (by rw [hg]; exact (keep_size (w := w) (g := g) (row := none) (nk_ HK.out)) : w.heap.size ≤ gb107) : w0.heap.size ≤ gb107)); have NB0_107 := Aside0.mk ((by rw [hg]; exact Nat.ne_of_lt (IsS79.lt (show IsS79 w0 _ g s0_0 s0_1 from ni79_38 HI0.out)) : g ≠ gb107)); have NB107_0 := Aside0.mk ((by rw [hg]; exact Nat.ne_of_gt (IsS79.lt (show IsS79 w0 _ g s0_0 s0_1 from ni79_38 HI0.out)) : gb107 ≠ g)); replace HI0 := Aside0.mk (IsS79.below (ni79_38 HI0.out) hb); replace HK := Aside0.mk (KeepBut.trans (nk_ HK.out) (KeepBut.of_below hb g none) (.inl rfl)); replace HB := Aside0.mk (below_step (ng79_38 HB.out) hb); clear hb hbox hg) | ((with_reducible refine gate_callee (f := 39) rfl ?_); refine gl_ (some 7) Tryd.func39 #[.pointer (some ⟨g, 0, none⟩), .int .i64 5] ?_; (with_reducible refine (spec_l30Rd_pick.calls k g s0_0 s0_1 5 t108 t109 w0 _ ?side1 ?side2 A2.out).mono ?_); (case side1 => repeat (first | (with_reducible first | exact HI0.out | apply IsS79.alloc | apply IsS79.drewN | apply IsS79.drew | apply IsS79.set_1 | refine IsS79.far ?_ NB0_107.out _) | exact HI0.out)); (case side2 => exact (ng79_38 HB.out)); rintro e w5 ⟨rfl, hi, hb, hk⟩; refine ⟨_, rfl, ?_⟩; replace BK107 := kk_ BK107 hk NB107_0; replace HK := Aside0.mk (KeepBut.trans (nk_ HK.out) hk (.inl rfl)); replace HB := Aside0.mk (hb); replace HI0 := Aside0.mk (hi); (try clear hb); (try clear hb2); (try clear hk); (try clear hi)) | ((with_reducible refine gate_dst (N := 3) rfl ?_); refine bx_ 3 #[.int .i64 0, .slice none 0 0] 25 ?_; intro gb110 hg w6 hbox hb; have BK110 := Aside0.mk (hbox); have GW110 := Aside0.mk (zk_ hg (nk_ HK.out)); have GE110 := Aside0.mk ((Nat.le_trans HW0.out (by rw [hg]; exact (keep_size (w := w) (g := g) (row := none) (nk_ HK.out)) : w.heap.size ≤ gb110) : w0.heap.size ≤ gb110)); have NB107_110 := Aside0.mk (nl_ BK107.out hg); have NB110_107 := Aside0.mk (nm_ BK107.out hg); have NB0_110 := Aside0.mk ((by rw [hg]; exact Nat.ne_of_lt (IsS79.lt (show IsS79 w0 _ g s0_0 t109 from ni79_38 HI0.out)) : g ≠ gb110)); have NB110_0 := Aside0.mk ((by rw [hg]; exact Nat.ne_of_gt (IsS79.lt (show IsS79 w0 _ g s0_0 t109 from ni79_38 HI0.out)) : gb110 ≠ g)); replace HI0 := Aside0.mk (IsS79.below (ni79_38 HI0.out) hb); replace BK107 := kb_ BK107 hb; replace HK := Aside0.mk (KeepBut.trans (nk_ HK.out) (KeepBut.of_below hb g none) (.inl rfl)); replace HB := Aside0.mk (below_step (ng79_38 HB.out) hb); clear hb hbox hg; have hnb7 := NB110_107.out; have hnc7 := NB107_110.out; have hnb8 := NB110_0.out; have hnc8 := NB0_110.out; obtain ⟨hcz9_0, hcz9_1, hfz9_0, hfz9_1⟩ := cz2_ BK110.out) | ((with_reducible refine gate_callee (f := 39) rfl ?_); refine gl_ (some 11) Tryd.func39 #[.pointer (some ⟨g, 0, none⟩), .int .i64 14] ?_; (with_reducible refine (spec_l30Rd_pick.calls k g s0_0 t109 14 t111 t112 w0 _ ?side1 ?side2 A3.out).mono ?_); (case side1 => repeat (first | (with_reducible first | exact HI0.out | apply IsS79.alloc | apply IsS79.drewN | apply IsS79.drew | apply IsS79.set_1 | refine IsS79.far ?_ NB0_107.out _ | refine IsS79.far ?_ NB0_110.out _) | exact HI0.out)); (case side2 => exact (ng79_38 HB.out)); rintro e w10 ⟨rfl, hi, hb, hk⟩; refine ⟨_, rfl, ?_⟩; replace BK107 := Aside0.mk (KeepBut.blk hk (g' := gb107) (o := .cells #[.int .i64 0, .slice none 0 0] 25 (0, 0)) (nbf_ BK107.out) NB107_0.out (by simp)); replace BK110 := Aside0.mk (KeepBut.blk hk (g' := gb110) (o := .cells #[.int .i64 (wrap64 (2 + t108)), .slice none 0 0] 25 (0, 0)) (np_ BK110.out) NB110_0.out (by simp)); replace HK := Aside0.mk (KeepBut.trans (nk_ HK.out) hk (.inl rfl)); replace HB := Aside0.mk (hb); replace HI0 := Aside0.mk (hi); (try clear hb); (try clear hb2); (try clear hk); (try clear hi)))
  go_loopg [4] k (fun kq v4 w' => ∃ (x4_1 : Int) (x1001_1 : Int) (x111001_1 : List (S54)) (u111001 : Value), v4 = .int .i64 x4_1 ∧ Aside0 (spec_l30Net.l0 kq x4_1 s0_0 x1001_1 (wrap64 (2 + t108)) x111001_1 = some (r1, r2, r3)) ∧ Aside0 (kq ≤ k) ∧ Aside0 (Kd.R k54 54 w' w.heap.size (fun _ => True) u111001 x111001_1) ∧ Aside0 (w'.heap[gb107]? = some (.cells #[.int .i64 0, (.slice none 0 0)] 25 (0, 0))) ∧ Aside0 (w'.heap[gb110]? = some (.cells #[.int .i64 (wrap64 (2 + t108)), u111001] 25 (0, 0))) ∧ Aside0 (IsS79 w0 w' g s0_0 x1001_1) ∧ Aside0 (KeepBut w w' g none) ∧ Aside0 (Below w0.heap.size w0 w'))
  case atStart => exact ⟨(t111), (t112), (([] : List (S54))), (.slice none 0 0), ns_, H', ⟨Nat.le_refl _⟩, ⟨by first | exact Kd.R_nil _ _ _ _ _ | exact Kd.N_nil _ _ _ _ _ | exact Kd.V_nil _ _ _ _ _ | exact Kd.Q_nil _ _ _ _ _ | exact Kd.S_nil _ _ _ _ _⟩, ⟨nb_ BK107.out⟩, ⟨nb_ BK110.out⟩, ⟨ni79_38 HI0.out⟩, ⟨nk_ HK.out⟩, ⟨by repeat (first | (with_reducible first | exact HB.out | apply below_alloc | apply pw_below_drewN | apply below_drew1 | refine below_set ?_ (IsS79.ge HI0.out) | refine below_set ?_ GE107.out | refine below_set ?_ GE110.out) | exact HB.out)⟩⟩
  case round =>
   clear H'
   try clear hcz9_0
   try clear hcz9_1
   try clear hfz9_0
   try clear hfz9_1
   obtain ⟨x4_1, x1001_1, x111001_1, u111001, rfl, HA, HK1, HO_111001, BK107, BK110, HI0, HK, HB⟩ := hrel
   cases gk with
   | zero => exact absurd HA.out (by simp [spec_l30Net.l0])
   | succ k1 =>
    have H := HA.out
    clear HA
    simp only [spec_l30Net.l0] at H
    by_cases c11 : x4_1 > 0
    rotate_left
    ·rw [if_neg c11] at H
     have c11b0 : decide (0 < x4_1) = false := decide_eq_false c11
     clear c11
     simp only [Option.some.injEq, Prod.mk.injEq] at H
     obtain ⟨rfl, rfl, rfl⟩ := H
     have hnb82 := NB110_107.out
     have hnc82 := NB107_110.out
     have hnb83 := NB110_0.out
     have hnc83 := NB0_110.out
     obtain ⟨hcz84_0, hcz84_1, hfz84_0, hfz84_1⟩ := cz2_ BK110.out
     have hnb85 := NB107_0.out
     have hnc85 := NB0_107.out
     obtain ⟨hcz86_0, hcz86_1, hfz86_0, hfz86_1⟩ := cz2_ BK107.out
     obtain ⟨Ao87, co87, eo87⟩ := Kd.R_slice HO_111001.out
     subst eo87
     go_wp2
     refine bodyPost_ret (results_cell_row rfl _ _ gb107 25 #[.int .i64 (wrap64 (2 + t108)), .slice Ao87 x111001_1.length co87] (0, 0) _ rfl (np_ BK107.out) Tryd.underlying25 rfl (by kernel_rfl)) rfl ?_
     exact ⟨_, nw_, by (with_reducible repeat (first | apply rA38 | apply rN38 | apply Kd.R_drew)); exact Kd.R_mono (rf2_ (Kd.R_types HO_111001.out BK107.out (by decide))) (fun _ hk => trivial), ni79_38 HI0.out, by repeat (first | (with_reducible first | exact HB.out | apply below_alloc | apply pw_below_drewN | apply below_drew1 | refine below_set ?_ (IsS79.ge HI0.out) | refine below_set ?_ GE107.out | refine below_set ?_ GE110.out) | exact HB.out), nk_ HK.out⟩

    rw [if_pos c11] at H
    have c11b0 : decide (0 < x4_1) = true := decide_eq_true c11
    clear c11
    replace H := Option.bind_eq_some_iff.mp H
    obtain ⟨⟨t113, t114⟩, A120, H⟩ := H
    try dsimp only at H
    have A12 := Aside0.mk A120
    clear A120
    replace H := Option.bind_eq_some_iff.mp H
    obtain ⟨⟨t115, t116⟩, A130, H⟩ := H
    try dsimp only at H
    have A13 := Aside0.mk A130
    clear A130
    replace H := Option.bind_eq_some_iff.mp H
    obtain ⟨⟨t117, t118⟩, A140, H⟩ := H
    try dsimp only at H
    have A14 := Aside0.mk A140
    clear A140
    obtain ⟨y119, hy119⟩ : ∃ y_ : List Int, y_ = (([0, 1, 2, 5, 9, t117] : List Int)) := ⟨_, rfl⟩
    replace H : ((spec_l30Rd_one.f k1 s0_0 t118 y119).bind fun bt122 => ((spec_l30Rd_one.f k1 s0_0 bt122.2 (([0, 0, 3, 8] : List Int))).bind fun bt127 => ((spec_l30Rd_pick.f k1 s0_0 bt127.2 10).bind fun bt129 => (if t113 = t115 then (if (wrap64 (2 + t108)) = 0 then (none) else (if x111001_1.length < 3518437208883 then (spec_l30Net.l0 k1 (wrap64 (x4_1 - 1)) s0_0 bt129.2 (wrap64 (2 + t108)) (x111001_1 ++ [(⟨t113, Int.tmod (wrap64 (t115 + 1)) (wrap64 (2 + t108)), bt122.1, bt127.1, bt129.1⟩ : S54)])) else (none))) else (if x111001_1.length < 3518437208883 then (spec_l30Net.l0 k1 (wrap64 (x4_1 - 1)) s0_0 bt129.2 (wrap64 (2 + t108)) (x111001_1 ++ [(⟨t113, t115, bt122.1, bt127.1, bt129.1⟩ : S54)])) else (none)))))) = some (r1, r2, r3) := by first | (rw [hy119]; with_reducible exact H) | (have H2_ := (Option.bind_some _ _).symm.trans H; rw [hy119]; with_reducible exact H2_) | (have H2_ := (Option.bind_some _ _).symm.trans H; with_reducible exact H2_) | with_reducible exact H | (rw [hy119]; exact H) | exact H
    have Ny119 := Aside0.mk hy119
    clear hy119
    replace H := Option.bind_eq_some_iff.mp H
    obtain ⟨⟨t122, t123⟩, A150, H⟩ := H
    try dsimp only at H
    have A15 := Aside0.mk A150
    clear A150
    obtain ⟨y124, hy124⟩ : ∃ y_ : List Int, y_ = (([0, 0, 3, 8] : List Int)) := ⟨_, rfl⟩
    replace H : ((spec_l30Rd_one.f k1 s0_0 t123 y124).bind fun bt127 => ((spec_l30Rd_pick.f k1 s0_0 bt127.2 10).bind fun bt129 => (if t113 = t115 then (if (wrap64 (2 + t108)) = 0 then (none) else (if x111001_1.length < 3518437208883 then (spec_l30Net.l0 k1 (wrap64 (x4_1 - 1)) s0_0 bt129.2 (wrap64 (2 + t108)) (x111001_1 ++ [(⟨t113, Int.tmod (wrap64 (t115 + 1)) (wrap64 (2 + t108)), t122, bt127.1, bt129.1⟩ : S54)])) else (none))) else (if x111001_1.length < 3518437208883 then (spec_l30Net.l0 k1 (wrap64 (x4_1 - 1)) s0_0 bt129.2 (wrap64 (2 + t108)) (x111001_1 ++ [(⟨t113, t115, t122, bt127.1, bt129.1⟩ : S54)])) else (none))))) = some (r1, r2, r3) := by first | (rw [hy124]; with_reducible exact H) | (have H2_ := (Option.bind_some _ _).symm.trans H; rw [hy124]; with_reducible exact H2_) | (have H2_ := (Option.bind_some _ _).symm.trans H; with_reducible exact H2_) | with_reducible exact H | (rw [hy124]; exact H) | exact H
    have Ny124 := Aside0.mk hy124
    clear hy124
    replace H := Option.bind_eq_some_iff.mp H
    obtain ⟨⟨t127, t128⟩, A160, H⟩ := H
    try dsimp only at H
    have A16 := Aside0.mk A160
    clear A160
    replace H := Option.bind_eq_some_iff.mp H
    obtain ⟨⟨t129, t130⟩, A170, H⟩ := H
    try dsimp only at H
    have A17 := Aside0.mk A170
    clear A170
    have H' := Aside0.mk H
    clear H
    try go_wp2
    replace HO_111001 := Aside0.mk (Kd.R_drew HO_111001.out)
    replace BK107 := Aside0.mk (blk_drew BK107.out)
    replace BK110 := Aside0.mk (blk_drew BK110.out)
    replace HI0 := Aside0.mk (IsS79.drew HI0.out)
    replace HK := Aside0.mk (keep_drew HK.out)
    replace HB := Aside0.mk (below_drew1 HB.out)
    refine start_ (n := 21) (S := fun w' => w'.cell? ⟨gb110, 0, none⟩ = some (.int .i64 (wrap64 (2 + t108))) ∧ w'.cell? ⟨gb110, 1, none⟩ = some (u111001)) (ds := []) (bm_ 21 0) (by kernel_rfl) rfl rfl ⟨ct_ BK110.out 0, ct_ BK110.out 1⟩ (fun hHeld => ?_); refine with_tabW spec_l30Net.tab5 spec_l30Net.bits5 (fun HT_ HW_ => ?_)
    generalize wr.drew = w21 at HO_111001 BK107 BK110 HI0 HK HB hHeld ⊢
    refine pu_ 0 16 (bm_ 21 1) HT_.out ?_
    refine pu_ 1 17 (bm_ 21 3) HT_.out ?_
    refine pu_ 4 20 (bm_ 21 19) HT_.out ?_
    refine pu_ 5 21 (bm_ 21 51) HT_.out ?_
    refine pu_ 8 24 (bm_ 21 307) HT_.out ?_
    refine pu_ 9 25 (bm_ 21 819) HT_.out ?_
    refine pu_ 13 29 (bm_ 21 9011) HT_.out ?_
    refine pu_ 16 32 (bm_ 21 74547) HT_.out ?_
    refine tk_ 2 18 (bm_ 21 74551) HT_.out HW_.out hHeld ?_
    refine tk_ 6 22 (bm_ 21 74615) HT_.out HW_.out hHeld ?_
    refine join_ (σ := Value × Value × Nat) 1 z38_0 (fun s_ => [(19, .int .i64 t113), (23, .int .i64 t115), (26, .int .i64 t117), (27, s_.1), (28, .int .i64 t122), (30, s_.2.1), (31, .int .i64 t127), (33, .int .i64 t129), (5, .pointer (some ⟨s_.2.2, 0, none⟩)), (34, .agg #[.int .i64 t113, .int .i64 t115, .int .i64 t122, .int .i64 t127, .int .i64 t129])]) (fun s_ w' => (w'.cell? ⟨gb110, 0, none⟩ = some (.int .i64 (wrap64 (2 + t108))) ∧ w'.cell? ⟨gb110, 1, none⟩ = some (u111001)) ∧ (Kd.R (Kd.int .i64) 3 w' w.heap.size (fun k_ => some k_ ≠ (s_.2.1 : Value).ownBlock) s_.1 y119) ∧ (Kd.R (Kd.int .i64) 3 w' w.heap.size (fun k_ => some k_ ≠ (s_.1 : Value).ownBlock) s_.2.1 y124) ∧ (Kd.R k54 54 w' w.heap.size (fun k_ => k_ ≠ s_.2.2) u111001 x111001_1) ∧ (w'.heap[gb107]? = some (.cells #[.int .i64 0, .slice none 0 0] 25 (0, 0))) ∧ (w'.heap[gb110]? = some (.cells #[.int .i64 (wrap64 (2 + t108)), u111001] 25 (0, 0))) ∧ (w'.heap[s_.2.2]? = some (.cells #[.int .i64 0, .int .i64 0, .int .i64 0, .int .i64 0, .int .i64 0] 54 (0, 0))) ∧ (w.heap.size ≤ s_.2.2) ∧ (w0.heap.size ≤ s_.2.2) ∧ (g ≠ s_.2.2) ∧ (s_.2.2 ≠ g) ∧ (gb107 ≠ s_.2.2) ∧ (s_.2.2 ≠ gb107) ∧ (gb110 ≠ s_.2.2) ∧ (s_.2.2 ≠ gb110) ∧ (IsS79 w0 w' g s0_0 t130) ∧ (KeepBut w w' g none) ∧ (Below w0.heap.size w0 w')) ?_ ?_
    ·skip
     rintro ⟨v120, v125, gb131⟩ w35 ⟨hS_, h0_, h1_, h2_, h3_, h4_, h5_, h6_, h7_, h8_, h9_, h10_, h11_, h12_, h13_, h14_, h15_, h16_⟩
     have HO121 : Aside0 (Kd.R (Kd.int .i64) 3 w35 w.heap.size (fun k_ => some k_ ≠ (v125 : Value).ownBlock) v120 y119) := ⟨h0_⟩
     have HO126 : Aside0 (Kd.R (Kd.int .i64) 3 w35 w.heap.size (fun k_ => some k_ ≠ (v120 : Value).ownBlock) v125 y124) := ⟨h1_⟩
     replace HO_111001 : Aside0 (Kd.R k54 54 w35 w.heap.size (fun k_ => k_ ≠ gb131) u111001 x111001_1) := ⟨h2_⟩
     replace BK107 : Aside0 (w35.heap[gb107]? = some (.cells #[.int .i64 0, .slice none 0 0] 25 (0, 0))) := ⟨h3_⟩
     replace BK110 : Aside0 (w35.heap[gb110]? = some (.cells #[.int .i64 (wrap64 (2 + t108)), u111001] 25 (0, 0))) := ⟨h4_⟩
     have BK131 : Aside0 (w35.heap[gb131]? = some (.cells #[.int .i64 0, .int .i64 0, .int .i64 0, .int .i64 0, .int .i64 0] 54 (0, 0))) := ⟨h5_⟩
     have GW131 : Aside0 (w.heap.size ≤ gb131) := ⟨h6_⟩
     have GE131 : Aside0 (w0.heap.size ≤ gb131) := ⟨h7_⟩
     have NB0_131 : Aside0 (g ≠ gb131) := ⟨h8_⟩
     have NB131_0 : Aside0 (gb131 ≠ g) := ⟨h9_⟩
     have NB107_131 : Aside0 (gb107 ≠ gb131) := ⟨h10_⟩
     have NB131_107 : Aside0 (gb131 ≠ gb107) := ⟨h11_⟩
     have NB110_131 : Aside0 (gb110 ≠ gb131) := ⟨h12_⟩
     have NB131_110 : Aside0 (gb131 ≠ gb110) := ⟨h13_⟩
     replace HI0 : Aside0 (IsS79 w0 w35 g s0_0 t130) := ⟨h14_⟩
     replace HK : Aside0 (KeepBut w w35 g none) := ⟨h15_⟩
     replace HB : Aside0 (Below w0.heap.size w0 w35) := ⟨h16_⟩
     clear h0_ h1_ h2_ h3_ h4_ h5_ h6_ h7_ h8_ h9_ h10_ h11_ h12_ h13_ h14_ h15_ h16_
     have hHeld : w35.cell? ⟨gb110, 0, none⟩ = some (.int .i64 (wrap64 (2 + t108))) ∧ w35.cell? ⟨gb110, 1, none⟩ = some (u111001) := hS_
     refine nm2_ ?_
     refine one_ (i := 20) (N := none) (bm_ 21 2097151) rfl rfl (one_of HT_.out (by kernel_rfl)) (by decide) (fun K hK => ?_)
     have hs36 : w35.cell? ⟨gb131, 0, none⟩ = some (.int .i64 0) := ct_ BK131.out 0
     have hfs36 := blk_frozen BK131.out 0
     have hns36_0 := NB107_131.out
     have hns36_1 := NB110_131.out
     have hms36_0 := NB131_107.out
     have hms36_1 := NB131_110.out
     have hs37 : w35.cell? ⟨gb131, 1, none⟩ = some (.int .i64 0) := ct_ BK131.out 1
     have hfs37 := blk_frozen BK131.out 1
     have hns37_0 := NB107_131.out
     have hns37_1 := NB110_131.out
     have hms37_0 := NB131_107.out
     have hms37_1 := NB131_110.out
     have hs38 : w35.cell? ⟨gb131, 2, none⟩ = some (.int .i64 0) := ct_ BK131.out 2
     have hfs38 := blk_frozen BK131.out 2
     have hns38_0 := NB107_131.out
     have hns38_1 := NB110_131.out
     have hms38_0 := NB131_107.out
     have hms38_1 := NB131_110.out
     have hs39 : w35.cell? ⟨gb131, 3, none⟩ = some (.int .i64 0) := ct_ BK131.out 3
     have hfs39 := blk_frozen BK131.out 3
     have hns39_0 := NB107_131.out
     have hns39_1 := NB110_131.out
     have hms39_0 := NB131_107.out
     have hms39_1 := NB131_110.out
     have hs40 : w35.cell? ⟨gb131, 4, none⟩ = some (.int .i64 0) := ct_ BK131.out 4
     have hfs40 := blk_frozen BK131.out 4
     have hns40_0 := NB107_131.out
     have hns40_1 := NB110_131.out
     have hms40_0 := NB131_107.out
     have hms40_1 := NB131_110.out
     refine skip_ (w1 := ?_) (by rfl) rfl ?_ ?_
     rotate_left
     ·go_simp
      rfl
     refine hK.out _ _ ⟨((cell_far (p := ⟨gb131, _, none⟩) NB110_131.out _).trans (((cell_far (p := ⟨gb131, _, none⟩) NB110_131.out _).trans (((cell_far (p := ⟨gb131, _, none⟩) NB110_131.out _).trans (((cell_far (p := ⟨gb131, _, none⟩) NB110_131.out _).trans (((cell_far (p := ⟨gb131, _, none⟩) NB110_131.out _).trans (hHeld.1)))))))))), ((cell_far (p := ⟨gb131, _, none⟩) NB110_131.out _).trans (((cell_far (p := ⟨gb131, _, none⟩) NB110_131.out _).trans (((cell_far (p := ⟨gb131, _, none⟩) NB110_131.out _).trans (((cell_far (p := ⟨gb131, _, none⟩) NB110_131.out _).trans (((cell_far (p := ⟨gb131, _, none⟩) NB110_131.out _).trans (hHeld.2))))))))))⟩ (fun hHeld => ?_)
     clear hK K
     refine done_ (done_of HT_.out (by kernel_rfl)) ?_
     have H := H'.out
     clear H'
     by_cases c18 : t113 = t115
     rotate_left
     ·rw [if_neg c18] at H
      have c18b0 : (t113 == t115) = false := beq_eq_false_iff_ne.mpr c18
      have c18b1 : (t113 != t115) = true := bne_iff_ne.mpr c18
      by_cases c51 : x111001_1.length < 3518437208883
      rotate_left
      ·rw [if_neg c51] at H
       exact absurd H (by simp)
      rw [if_pos c51] at H
      have LMc51 := Aside0.mk c51
      clear c51
      obtain ⟨y135, hy135⟩ : ∃ y_ : List (S54), y_ = (x111001_1 ++ [(⟨t113, t115, t122, t127, t129⟩ : S54)]) := ⟨_, rfl⟩
      replace H : (spec_l30Net.l0 k1 (wrap64 (x4_1 - 1)) s0_0 t130 (wrap64 (2 + t108)) y135) = some (r1, r2, r3) := by first | (rw [hy135]; with_reducible exact H) | (have H2_ := (Option.bind_some _ _).symm.trans H; rw [hy135]; with_reducible exact H2_) | (have H2_ := (Option.bind_some _ _).symm.trans H; with_reducible exact H2_) | with_reducible exact H | (rw [hy135]; exact H) | exact H
      have Ny135 := Aside0.mk hy135
      clear hy135
      have H' := Aside0.mk H
      clear H
      have hnb72 := NB131_107.out
      have hnc72 := NB107_131.out
      have hnb73 := NB131_110.out
      have hnc73 := NB110_131.out
      have hnb74 := NB131_0.out
      have hnc74 := NB0_131.out
      obtain ⟨hcz75_0, hcz75_1, hcz75_2, hcz75_3, hcz75_4, hfz75_0, hfz75_1, hfz75_2, hfz75_3, hfz75_4⟩ := cz5_ BK131.out
      have hnb76 := NB110_107.out
      have hnc76 := NB107_110.out
      have hnb77 := NB110_0.out
      have hnc77 := NB0_110.out
      obtain ⟨hcz78_0, hcz78_1, hfz78_0, hfz78_1⟩ := cz2_ BK110.out
      try go_wp2_with (first | ((with_reducible refine gate_builtin (b := .append) (xs := #[.tmp 48, .tmp 50]) rfl ?_); at_builtin; refine Kd.R_append k54 w.heap.size rfl (.tmp 48) (.tmp 50) 23 54 (.agg #[(.int .i64 0), (.int .i64 0), (.int .i64 0), (.int .i64 0), (.int .i64 0)]) 40 rfl Tryd.underlying23 info54 rfl (by decide) (by omega) u111001 x111001_1 (⟨t113, t115, t122, t127, t129⟩ : S54) [.int .i64 t113, .int .i64 t115, .int .i64 t122, .int .i64 t127, .int .i64 t129] (fun k_ => k_ ≠ gb131) (fun _ => False) rfl (by first | (go_simp; done) | (go_simp; rfl)) ?aP (fun _ hk => hk.elim) ?aF ?aO (Below.refl _ _) ?aS ?aL ?_; (case aP => exact k54_mkM _ _ _ (⟨t113, t115, t122, t127, t129⟩ : S54)); (case aF => exact (fun k_ hk => Kd.freshB (g := gb131) (o := .cells #[.int .i64 t113, .int .i64 t115, .int .i64 t122, .int .i64 t127, .int .i64 t129] 54 (0, 0)) (np_ BK131.out) k_ hk)); (case aO => exact (by (with_reducible repeat (first | apply rA38 | apply rN38 | apply Kd.R_drew)); exact Kd.R_mono (rf5_ (Kd.R_mono HO_111001.out (fun k_ hk => (⟨hk, hk⟩ : _ ∧ k_ ≠ gb131)))) (fun _ hk => hk.1))); (case aS => exact (keep_size (w := w) (g := g) (row := none) (nk_ HK.out))); (case aL => have := LMc51.out; omega); intro v136 w79 ho hb hg hat; rw [← Ny135.out] at ho; have HO137 := Aside0.mk (ho); replace BK107 := Aside0.mk (blk_grown (g := gb107) (o := .cells #[.int .i64 0, .slice none 0 0] 25 (0, 0)) (nbf_ BK107.out) hg (Kd.R_ne HO_111001.out BK107.out (by decide))); replace BK110 := Aside0.mk (blk_grown (g := gb110) (o := .cells #[.int .i64 (wrap64 (2 + t108)), u111001] 25 (0, 0)) (nbf_ BK110.out) hg (Kd.R_ne HO_111001.out BK110.out (by decide))); replace HI0 := Aside0.mk (IsS79.grown (show IsS79 w0 _ g s0_0 t130 from ni79_38 HI0.out) hg (IsS79.own_ne HI0.out HO_111001.out (by decide))); replace HO121 := Aside0.mk (Kd.R_over' (by (with_reducible repeat (first | apply rA38 | apply rN38 | apply Kd.R_drew)); exact (Kd.R_mono (rf5_ (Kd.R_types HO121.out BK131.out (by decide))) (fun _ h_ => h_.1))) (Kd.R_typed (by (with_reducible repeat (first | apply rA38 | apply rN38 | apply Kd.R_drew)); exact (Kd.R_mono (rf5_ (Kd.R_mono HO_111001.out (fun k_ hk => (⟨hk, hk⟩ : _ ∧ k_ ≠ gb131)))) (fun _ h_ => h_.1)))) (by decide) hg); replace HO126 := Aside0.mk (Kd.R_over' (by (with_reducible repeat (first | apply rA38 | apply rN38 | apply Kd.R_drew)); exact (Kd.R_mono (rf5_ (Kd.R_types HO126.out BK131.out (by decide))) (fun _ h_ => h_.1))) (Kd.R_typed (by (with_reducible repeat (first | apply rA38 | apply rN38 | apply Kd.R_drew)); exact (Kd.R_mono (rf5_ (Kd.R_mono HO_111001.out (fun k_ hk => (⟨hk, hk⟩ : _ ∧ k_ ≠ gb131)))) (fun _ h_ => h_.1)))) (by decide) hg); replace BK131 := Aside0.mk (blk_grown (g := gb131) (o := .cells #[.int .i64 t113, .int .i64 t115, .int .i64 t122, .int .i64 t127, .int .i64 t129] 54 (0, 0)) (np_ BK131.out) hg (Kd.R_away HO_111001.out (fun _ hk => hk))); replace HB := Aside0.mk (below_weaken (ng79_38 HB.out) HL.out hb); replace HK := Aside0.mk (KeepBut.trans (nk_ HK.out) (KeepBut.of_grown hg g) (Kd.R_base2 HO_111001.out)); clear HO_111001; clear ho hb hg hat; obtain ⟨Ao80, co80, eo80⟩ := Kd.R_slice HO137.out; subst eo80; obtain ⟨hcz81_0, hcz81_1, hfz81_0, hfz81_1⟩ := cz2_ BK110.out))
      go_roundg k1
      case measure => have := HK1.out; omega
      case rel => exact ⟨(wrap64 (x4_1 - 1)), (t130), (y135), (.slice Ao80 y135.length co80), ns_, H', ⟨by have := HK1.out; omega⟩, ⟨by (with_reducible repeat (first | apply rA38 | apply rN38 | apply Kd.R_drew)); exact Kd.R_mono (Kd.R_far (p := ⟨gb110, 1, none⟩) (Kd.R_types HO137.out BK110.out (by decide)) (fun _ hk => hk.2) (.slice Ao80 y135.length co80)) (fun _ hk => trivial)⟩, ⟨np_ BK107.out⟩, ⟨np_ BK110.out⟩, ⟨ni79_38 HI0.out⟩, ⟨nk_ HK.out⟩, ⟨by repeat (first | (with_reducible first | exact HB.out | apply below_alloc | apply pw_below_drewN | apply below_drew1 | refine below_set ?_ (IsS79.ge HI0.out) | refine below_set ?_ GE107.out | refine below_set ?_ GE110.out | refine below_set ?_ GE131.out) | exact HB.out)⟩⟩
     rw [if_pos c18] at H
     have c18b0 : (t113 == t115) = true := beq_iff_eq.mpr c18
     have c18b1 : (t113 != t115) = false := bne_eq_false_iff_eq.mpr c18
     clear c18
     by_cases c19 : (wrap64 (2 + t108)) = 0
     ·rw [if_pos c19] at H
      exact absurd H (by simp)
     rw [if_neg c19] at H
     have c19b0 : ((wrap64 (2 + t108)) == 0) = false := beq_eq_false_iff_ne.mpr c19
     have c19b1 : ((wrap64 (2 + t108)) != 0) = true := bne_iff_ne.mpr c19
     by_cases c20 : x111001_1.length < 3518437208883
     rotate_left
     ·rw [if_neg c20] at H
      exact absurd H (by simp)
     rw [if_pos c20] at H
     have LMc20 := Aside0.mk c20
     clear c20
     obtain ⟨y132, hy132⟩ : ∃ y_ : List (S54), y_ = (x111001_1 ++ [(⟨t113, Int.tmod (wrap64 (t115 + 1)) (wrap64 (2 + t108)), t122, t127, t129⟩ : S54)]) := ⟨_, rfl⟩
     replace H : (spec_l30Net.l0 k1 (wrap64 (x4_1 - 1)) s0_0 t130 (wrap64 (2 + t108)) y132) = some (r1, r2, r3) := by first | (rw [hy132]; with_reducible exact H) | (have H2_ := (Option.bind_some _ _).symm.trans H; rw [hy132]; with_reducible exact H2_) | (have H2_ := (Option.bind_some _ _).symm.trans H; with_reducible exact H2_) | with_reducible exact H | (rw [hy132]; exact H) | exact H
     have Ny132 := Aside0.mk hy132
     clear hy132
     have H' := Aside0.mk H
     clear H
     have hnb41 := NB131_107.out
     have hnc41 := NB107_131.out
     have hnb42 := NB131_110.out
     have hnc42 := NB110_131.out
     have hnb43 := NB131_0.out
     have hnc43 := NB0_131.out
     obtain ⟨hcz44_0, hcz44_1, hcz44_2, hcz44_3, hcz44_4, hfz44_0, hfz44_1, hfz44_2, hfz44_3, hfz44_4⟩ := cz5_ BK131.out
     have hnb45 := NB110_107.out
     have hnc45 := NB107_110.out
     have hnb46 := NB110_0.out
     have hnc46 := NB0_110.out
     obtain ⟨hcz47_0, hcz47_1, hfz47_0, hfz47_1⟩ := cz2_ BK110.out
     try go_wp2_with (first | ((with_reducible refine gate_builtin (b := .append) (xs := #[.tmp 48, .tmp 50]) rfl ?_); at_builtin; refine Kd.R_append k54 w.heap.size rfl (.tmp 48) (.tmp 50) 23 54 (.agg #[(.int .i64 0), (.int .i64 0), (.int .i64 0), (.int .i64 0), (.int .i64 0)]) 40 rfl Tryd.underlying23 info54 rfl (by decide) (by omega) u111001 x111001_1 (⟨t113, Int.tmod (wrap64 (t115 + 1)) (wrap64 (2 + t108)), t122, t127, t129⟩ : S54) [.int .i64 t113, .int .i64 (Int.tmod (wrap64 (t115 + 1)) (wrap64 (2 + t108))), .int .i64 t122, .int .i64 t127, .int .i64 t129] (fun k_ => k_ ≠ gb131) (fun _ => False) rfl (by first | (go_simp; done) | (go_simp; rfl)) ?aP (fun _ hk => hk.elim) ?aF ?aO (Below.refl _ _) ?aS ?aL ?_; (case aP => exact k54_mkM _ _ _ (⟨t113, Int.tmod (wrap64 (t115 + 1)) (wrap64 (2 + t108)), t122, t127, t129⟩ : S54)); (case aF => exact (fun k_ hk => Kd.freshB (g := gb131) (o := .cells #[.int .i64 t113, .int .i64 (Int.tmod (wrap64 (t115 + 1)) (wrap64 (2 + t108))), .int .i64 t122, .int .i64 t127, .int .i64 t129] 54 (0, 0)) (np_ BK131.out) k_ hk)); (case aO => exact (by (with_reducible repeat (first | apply rA38 | apply rN38 | apply Kd.R_drew)); exact Kd.R_mono (Kd.R_far (p := ⟨gb131, 1, none⟩) (rf5_ (Kd.R_mono HO_111001.out (fun k_ hk => (⟨hk, hk⟩ : _ ∧ k_ ≠ gb131)))) (fun _ hk => hk.2) (.int .i64 (Int.tmod (wrap64 (t115 + 1)) (wrap64 (2 + t108))))) (fun _ hk => hk.1))); (case aS => exact (keep_size (w := w) (g := g) (row := none) (nk_ HK.out))); (case aL => have := LMc20.out; omega); intro v133 w48 ho hb hg hat; rw [← Ny132.out] at ho; have HO134 := Aside0.mk (ho); replace BK107 := Aside0.mk (blk_grown (g := gb107) (o := .cells #[.int .i64 0, .slice none 0 0] 25 (0, 0)) (nbf_ BK107.out) hg (Kd.R_ne HO_111001.out BK107.out (by decide))); replace BK110 := Aside0.mk (blk_grown (g := gb110) (o := .cells #[.int .i64 (wrap64 (2 + t108)), u111001] 25 (0, 0)) (nbf_ BK110.out) hg (Kd.R_ne HO_111001.out BK110.out (by decide))); replace HI0 := Aside0.mk (IsS79.grown (show IsS79 w0 _ g s0_0 t130 from ni79_38 HI0.out) hg (IsS79.own_ne HI0.out HO_111001.out (by decide))); replace HO121 := Aside0.mk (Kd.R_over' (by (with_reducible repeat (first | apply rA38 | apply rN38 | apply Kd.R_drew)); exact (Kd.R_mono (Kd.R_far (p := ⟨gb131, 1, none⟩) (rf5_ (Kd.R_types HO121.out BK131.out (by decide))) (fun _ hk => hk.2) (.int .i64 (Int.tmod (wrap64 (t115 + 1)) (wrap64 (2 + t108))))) (fun _ h_ => h_.1))) (Kd.R_typed (by (with_reducible repeat (first | apply rA38 | apply rN38 | apply Kd.R_drew)); exact (Kd.R_mono (Kd.R_far (p := ⟨gb131, 1, none⟩) (rf5_ (Kd.R_mono HO_111001.out (fun k_ hk => (⟨hk, hk⟩ : _ ∧ k_ ≠ gb131)))) (fun _ hk => hk.2) (.int .i64 (Int.tmod (wrap64 (t115 + 1)) (wrap64 (2 + t108))))) (fun _ h_ => h_.1)))) (by decide) hg); replace HO126 := Aside0.mk (Kd.R_over' (by (with_reducible repeat (first | apply rA38 | apply rN38 | apply Kd.R_drew)); exact (Kd.R_mono (Kd.R_far (p := ⟨gb131, 1, none⟩) (rf5_ (Kd.R_types HO126.out BK131.out (by decide))) (fun _ hk => hk.2) (.int .i64 (Int.tmod (wrap64 (t115 + 1)) (wrap64 (2 + t108))))) (fun _ h_ => h_.1))) (Kd.R_typed (by (with_reducible repeat (first | apply rA38 | apply rN38 | apply Kd.R_drew)); exact (Kd.R_mono (Kd.R_far (p := ⟨gb131, 1, none⟩) (rf5_ (Kd.R_mono HO_111001.out (fun k_ hk => (⟨hk, hk⟩ : _ ∧ k_ ≠ gb131)))) (fun _ hk => hk.2) (.int .i64 (Int.tmod (wrap64 (t115 + 1)) (wrap64 (2 + t108))))) (fun _ h_ => h_.1)))) (by decide) hg); replace BK131 := Aside0.mk (blk_grown (g := gb131) (o := .cells #[.int .i64 t113, .int .i64 (Int.tmod (wrap64 (t115 + 1)) (wrap64 (2 + t108))), .int .i64 t122, .int .i64 t127, .int .i64 t129] 54 (0, 0)) (np_ BK131.out) hg (Kd.R_away HO_111001.out (fun _ hk => hk))); replace HB := Aside0.mk (below_weaken (ng79_38 HB.out) HL.out hb); replace HK := Aside0.mk (KeepBut.trans (nk_ HK.out) (KeepBut.of_grown hg g) (Kd.R_base2 HO_111001.out)); clear HO_111001; clear ho hb hg hat; obtain ⟨Ao49, co49, eo49⟩ := Kd.R_slice HO134.out; subst eo49; obtain ⟨hcz50_0, hcz50_1, hfz50_0, hfz50_1⟩ := cz2_ BK110.out))
     go_roundg k1
     case measure => have := HK1.out; omega
     case rel => exact ⟨(wrap64 (x4_1 - 1)), (t130), (y132), (.slice Ao49 y132.length co49), ns_, H', ⟨by have := HK1.out; omega⟩, ⟨by (with_reducible repeat (first | apply rA38 | apply rN38 | apply Kd.R_drew)); exact Kd.R_mono (Kd.R_far (p := ⟨gb110, 1, none⟩) (Kd.R_types HO134.out BK110.out (by decide)) (fun _ hk => hk.2) (.slice Ao49 y132.length co49)) (fun _ hk => trivial)⟩, ⟨np_ BK107.out⟩, ⟨np_ BK110.out⟩, ⟨ni79_38 HI0.out⟩, ⟨nk_ HK.out⟩, ⟨by repeat (first | (with_reducible first | exact HB.out | apply below_alloc | apply pw_below_drewN | apply below_drew1 | refine below_set ?_ (IsS79.ge HI0.out) | refine below_set ?_ GE107.out | refine below_set ?_ GE110.out | refine below_set ?_ GE131.out) | exact HB.out)⟩⟩
    intro hJ3_7_10_11_12_14_15_17_19
    refine join_ (σ := Value × Value) 2 z38_1 (fun s_ => [(19, .int .i64 t113), (23, .int .i64 t115), (26, .int .i64 t117), (27, s_.1), (28, .int .i64 t122), (30, s_.2), (31, .int .i64 t127), (33, .int .i64 t129), (34, .agg #[.int .i64 t113, .int .i64 t115, .int .i64 t122, .int .i64 t127, .int .i64 t129])]) (fun s_ w' => (w'.cell? ⟨gb110, 0, none⟩ = some (.int .i64 (wrap64 (2 + t108))) ∧ w'.cell? ⟨gb110, 1, none⟩ = some (u111001)) ∧ (Kd.R (Kd.int .i64) 3 w' w.heap.size (fun k_ => some k_ ≠ (s_.2 : Value).ownBlock) s_.1 y119) ∧ (Kd.R (Kd.int .i64) 3 w' w.heap.size (fun k_ => some k_ ≠ (s_.1 : Value).ownBlock) s_.2 y124) ∧ (Kd.R k54 54 w' w.heap.size (fun _ => True) u111001 x111001_1) ∧ (w'.heap[gb107]? = some (.cells #[.int .i64 0, .slice none 0 0] 25 (0, 0))) ∧ (w'.heap[gb110]? = some (.cells #[.int .i64 (wrap64 (2 + t108)), u111001] 25 (0, 0))) ∧ (IsS79 w0 w' g s0_0 t130) ∧ (KeepBut w w' g none) ∧ (Below w0.heap.size w0 w')) ?_ ?_
    ·skip
     rintro ⟨v120, v125⟩ w34 ⟨hS_, h0_, h1_, h2_, h3_, h4_, h5_, h6_, h7_⟩
     have HO121 : Aside0 (Kd.R (Kd.int .i64) 3 w34 w.heap.size (fun k_ => some k_ ≠ (v125 : Value).ownBlock) v120 y119) := ⟨h0_⟩
     have HO126 : Aside0 (Kd.R (Kd.int .i64) 3 w34 w.heap.size (fun k_ => some k_ ≠ (v120 : Value).ownBlock) v125 y124) := ⟨h1_⟩
     replace HO_111001 : Aside0 (Kd.R k54 54 w34 w.heap.size (fun _ => True) u111001 x111001_1) := ⟨h2_⟩
     replace BK107 : Aside0 (w34.heap[gb107]? = some (.cells #[.int .i64 0, .slice none 0 0] 25 (0, 0))) := ⟨h3_⟩
     replace BK110 : Aside0 (w34.heap[gb110]? = some (.cells #[.int .i64 (wrap64 (2 + t108)), u111001] 25 (0, 0))) := ⟨h4_⟩
     replace HI0 : Aside0 (IsS79 w0 w34 g s0_0 t130) := ⟨h5_⟩
     replace HK : Aside0 (KeepBut w w34 g none) := ⟨h6_⟩
     replace HB : Aside0 (Below w0.heap.size w0 w34) := ⟨h7_⟩
     clear h0_ h1_ h2_ h3_ h4_ h5_ h6_ h7_
     have hHeld : w34.cell? ⟨gb110, 0, none⟩ = some (.int .i64 (wrap64 (2 + t108))) ∧ w34.cell? ⟨gb110, 1, none⟩ = some (u111001) := hS_
     refine nm2_ ?_
     refine one_ (i := 19) (N := some 5) z38_0 rfl rfl (one_of HT_.out (by kernel_rfl)) (by decide) (fun K hK => ?_)
     refine bs_ 5 #[.int .i64 0, .int .i64 0, .int .i64 0, .int .i64 0, .int .i64 0] 54 ?_
     intro gb131 hg w35 hbox hb
     replace HO_111001 := Aside0.mk (rB38 (Kd.R_elderB HO_111001.out gb131 (Nat.le_of_eq hg.symm)) hb)
     replace HO121 := Aside0.mk (rB38 HO121.out hb)
     replace HO126 := Aside0.mk (rB38 HO126.out hb)
     replace HB := Aside0.mk (below_step HB.out hb)
     have BK131 := Aside0.mk (hbox)
     have GW131 := Aside0.mk ((by rw [hg]; exact (keep_size (w := w) (g := g) (row := none) HK.out) : w.heap.size ≤ gb131))
     have GE131 := Aside0.mk ((Nat.le_trans HW0.out (by rw [hg]; exact (keep_size (w := w) (g := g) (row := none) HK.out) : w.heap.size ≤ gb131) : w0.heap.size ≤ gb131))
     replace HK := Aside0.mk (KeepBut.trans HK.out (KeepBut.of_below hb g none) (.inl rfl))
     have NB107_131 := Aside0.mk (nl_ BK107.out hg)
     have NB131_107 := Aside0.mk (nm_ BK107.out hg)
     replace BK107 := kb_ BK107 hb
     have NB110_131 := Aside0.mk (nl_ BK110.out hg)
     have NB131_110 := Aside0.mk (nm_ BK110.out hg)
     replace BK110 := kb_ BK110 hb
     have NB0_131 := Aside0.mk ((by rw [hg]; exact Nat.ne_of_lt (IsS79.lt (show IsS79 w0 _ g s0_0 t130 from ni79_38 HI0.out)) : g ≠ gb131))
     have NB131_0 := Aside0.mk ((by rw [hg]; exact Nat.ne_of_gt (IsS79.lt (show IsS79 w0 _ g s0_0 t130 from ni79_38 HI0.out)) : gb131 ≠ g))
     replace HI0 := Aside0.mk (IsS79.below HI0.out hb)
     clear hb hbox hg
     refine hK.out _ _ ⟨ct_ BK110.out 0, ct_ BK110.out 1⟩ (fun hHeld => ?_)
     clear hK K
     refine nm1_ (some 5) ?_
     exact norm_ nn_ (hJ3_7_10_11_12_14_15_17_19 (v120, v125, gb131) _ ⟨hHeld, HO121.out, HO126.out, (by (with_reducible repeat (first | apply rA38 | apply rN38 | apply Kd.R_drew)); exact Kd.R_mono HO_111001.out (fun _ hk => by first | exact hk.2 | trivial | simp_all)), BK107.out, BK110.out, BK131.out, GW131.out, GE131.out, NB0_131.out, NB131_0.out, NB107_131.out, NB131_107.out, NB110_131.out, NB131_110.out, HI0.out, HK.out, HB.out⟩)
    intro hJ3_7_10_11_12_14_15_17
    refine join_ (σ := Value × Value × Nat) 3 z38_2 (fun s_ => [(19, .int .i64 t113), (23, .int .i64 t115), (26, .int .i64 t117), (27, s_.1), (28, .int .i64 t122), (30, s_.2.1), (31, .int .i64 t127), (5, .pointer (some ⟨s_.2.2, 0, none⟩))]) (fun s_ w' => (w'.cell? ⟨gb110, 0, none⟩ = some (.int .i64 (wrap64 (2 + t108))) ∧ w'.cell? ⟨gb110, 1, none⟩ = some (u111001)) ∧ (Kd.R (Kd.int .i64) 3 w' w.heap.size (fun k_ => some k_ ≠ (s_.2.1 : Value).ownBlock) s_.1 y119) ∧ (Kd.R (Kd.int .i64) 3 w' w.heap.size (fun k_ => some k_ ≠ (s_.1 : Value).ownBlock) s_.2.1 y124) ∧ (Kd.R k54 54 w' w.heap.size (fun k_ => k_ ≠ s_.2.2) u111001 x111001_1) ∧ (w'.heap[gb107]? = some (.cells #[.int .i64 0, .slice none 0 0] 25 (0, 0))) ∧ (w'.heap[gb110]? = some (.cells #[.int .i64 (wrap64 (2 + t108)), u111001] 25 (0, 0))) ∧ (w'.heap[s_.2.2]? = some (.cells #[.int .i64 0, .int .i64 0, .int .i64 0, .int .i64 0, .int .i64 0] 54 (0, 0))) ∧ (w.heap.size ≤ s_.2.2) ∧ (w0.heap.size ≤ s_.2.2) ∧ (g ≠ s_.2.2) ∧ (s_.2.2 ≠ g) ∧ (gb107 ≠ s_.2.2) ∧ (s_.2.2 ≠ gb107) ∧ (gb110 ≠ s_.2.2) ∧ (s_.2.2 ≠ gb110) ∧ (IsS79 w0 w' g s0_0 t128) ∧ (KeepBut w w' g none) ∧ (Below w0.heap.size w0 w')) ?_ ?_
    ·skip
     rintro ⟨v120, v125, gb131⟩ w34 ⟨hS_, h0_, h1_, h2_, h3_, h4_, h5_, h6_, h7_, h8_, h9_, h10_, h11_, h12_, h13_, h14_, h15_, h16_⟩
     have HO121 : Aside0 (Kd.R (Kd.int .i64) 3 w34 w.heap.size (fun k_ => some k_ ≠ (v125 : Value).ownBlock) v120 y119) := ⟨h0_⟩
     have HO126 : Aside0 (Kd.R (Kd.int .i64) 3 w34 w.heap.size (fun k_ => some k_ ≠ (v120 : Value).ownBlock) v125 y124) := ⟨h1_⟩
     replace HO_111001 : Aside0 (Kd.R k54 54 w34 w.heap.size (fun k_ => k_ ≠ gb131) u111001 x111001_1) := ⟨h2_⟩
     replace BK107 : Aside0 (w34.heap[gb107]? = some (.cells #[.int .i64 0, .slice none 0 0] 25 (0, 0))) := ⟨h3_⟩
     replace BK110 : Aside0 (w34.heap[gb110]? = some (.cells #[.int .i64 (wrap64 (2 + t108)), u111001] 25 (0, 0))) := ⟨h4_⟩
     have BK131 : Aside0 (w34.heap[gb131]? = some (.cells #[.int .i64 0, .int .i64 0, .int .i64 0, .int .i64 0, .int .i64 0] 54 (0, 0))) := ⟨h5_⟩
     have GW131 : Aside0 (w.heap.size ≤ gb131) := ⟨h6_⟩
     have GE131 : Aside0 (w0.heap.size ≤ gb131) := ⟨h7_⟩
     have NB0_131 : Aside0 (g ≠ gb131) := ⟨h8_⟩
     have NB131_0 : Aside0 (gb131 ≠ g) := ⟨h9_⟩
     have NB107_131 : Aside0 (gb107 ≠ gb131) := ⟨h10_⟩
     have NB131_107 : Aside0 (gb131 ≠ gb107) := ⟨h11_⟩
     have NB110_131 : Aside0 (gb110 ≠ gb131) := ⟨h12_⟩
     have NB131_110 : Aside0 (gb131 ≠ gb110) := ⟨h13_⟩
     replace HI0 : Aside0 (IsS79 w0 w34 g s0_0 t128) := ⟨h14_⟩
     replace HK : Aside0 (KeepBut w w34 g none) := ⟨h15_⟩
     replace HB : Aside0 (Below w0.heap.size w0 w34) := ⟨h16_⟩
     clear h0_ h1_ h2_ h3_ h4_ h5_ h6_ h7_ h8_ h9_ h10_ h11_ h12_ h13_ h14_ h15_ h16_
     have hHeld : w34.cell? ⟨gb110, 0, none⟩ = some (.int .i64 (wrap64 (2 + t108))) ∧ w34.cell? ⟨gb110, 1, none⟩ = some (u111001) := hS_
     refine nm2_ ?_
     refine one_ (i := 17) (N := some 33) (bm_ 21 786431) rfl rfl (one_of HT_.out (by kernel_rfl)) (by decide) (fun K hK => ?_)
     refine go_ Tryd.func39 #[.pointer (some ⟨g, 0, none⟩), .int .i64 10] ?_
     with_reducible refine (spec_l30Rd_pick.calls k1 g s0_0 t128 10 t129 t130 w0 _ ?side1 ?side2 A17.out).mono ?_
     (case side1 => exact HI0.out)
     (case side2 => exact HB.out)
     rintro e w35 ⟨rfl, hi, hb, hk⟩
     refine ⟨_, rfl, ?_⟩
     replace HO_111001 := Aside0.mk (Kd.R_mono (Kd.R_keep (IsS79.apart (show IsS79 w0 _ g s0_0 t128 from ni79_38 HI0.out) HO_111001.out (by decide)) hk (fun _ h => h.2)) (fun _ h => h.1))
     replace BK107 := kk_ BK107 hk NB107_0
     replace BK110 := kk_ BK110 hk NB110_0
     replace HO121 := Aside0.mk (Kd.R_mono (Kd.R_keep (IsS79.apart (show IsS79 w0 _ g s0_0 t128 from ni79_38 HI0.out) HO121.out (by decide)) hk (fun _ h => h.2)) (fun _ h => h.1))
     replace HO126 := Aside0.mk (Kd.R_mono (Kd.R_keep (IsS79.apart (show IsS79 w0 _ g s0_0 t128 from ni79_38 HI0.out) HO126.out (by decide)) hk (fun _ h => h.2)) (fun _ h => h.1))
     replace BK131 := kk_ BK131 hk NB131_0
     replace HK := Aside0.mk (KeepBut.trans HK.out hk (.inl rfl))
     replace HB := Aside0.mk (hb)
     replace HI0 := Aside0.mk (hi)
     (try clear hb)
     (try clear hb2)
     (try clear hk)
     (try clear hi)
     refine hK.out _ _ ⟨ct_ BK110.out 0, ct_ BK110.out 1⟩ (fun hHeld => ?_)
     clear hK K
     refine nm1_ (some 33) ?_
     refine pu_ 18 34 z38_0 HT_.out ?_
     exact norm_ nn_ (hJ3_7_10_11_12_14_15_17_19 (v120, v125, gb131) _ ⟨hHeld, HO121.out, HO126.out, HO_111001.out, BK107.out, BK110.out, BK131.out, GW131.out, GE131.out, NB0_131.out, NB131_0.out, NB107_131.out, NB131_107.out, NB110_131.out, NB131_110.out, HI0.out, HK.out, HB.out⟩)
    intro hJ3_7_10_11_12_14_15_19
    refine join_ (σ := Value × Value) 4 z38_3 (fun s_ => [(19, .int .i64 t113), (23, .int .i64 t115), (26, .int .i64 t117), (27, s_.1), (28, .int .i64 t122), (30, s_.2), (31, .int .i64 t127)]) (fun s_ w' => (w'.cell? ⟨gb110, 0, none⟩ = some (.int .i64 (wrap64 (2 + t108))) ∧ w'.cell? ⟨gb110, 1, none⟩ = some (u111001)) ∧ (Kd.R (Kd.int .i64) 3 w' w.heap.size (fun k_ => some k_ ≠ (s_.2 : Value).ownBlock) s_.1 y119) ∧ (Kd.R (Kd.int .i64) 3 w' w.heap.size (fun k_ => some k_ ≠ (s_.1 : Value).ownBlock) s_.2 y124) ∧ (Kd.R k54 54 w' w.heap.size (fun _ => True) u111001 x111001_1) ∧ (w'.heap[gb107]? = some (.cells #[.int .i64 0, .slice none 0 0] 25 (0, 0))) ∧ (w'.heap[gb110]? = some (.cells #[.int .i64 (wrap64 (2 + t108)), u111001] 25 (0, 0))) ∧ (IsS79 w0 w' g s0_0 t128) ∧ (KeepBut w w' g none) ∧ (Below w0.heap.size w0 w')) ?_ ?_
    ·skip
     rintro ⟨v120, v125⟩ w33 ⟨hS_, h0_, h1_, h2_, h3_, h4_, h5_, h6_, h7_⟩
     have HO121 : Aside0 (Kd.R (Kd.int .i64) 3 w33 w.heap.size (fun k_ => some k_ ≠ (v125 : Value).ownBlock) v120 y119) := ⟨h0_⟩
     have HO126 : Aside0 (Kd.R (Kd.int .i64) 3 w33 w.heap.size (fun k_ => some k_ ≠ (v120 : Value).ownBlock) v125 y124) := ⟨h1_⟩
     replace HO_111001 : Aside0 (Kd.R k54 54 w33 w.heap.size (fun _ => True) u111001 x111001_1) := ⟨h2_⟩
     replace BK107 : Aside0 (w33.heap[gb107]? = some (.cells #[.int .i64 0, .slice none 0 0] 25 (0, 0))) := ⟨h3_⟩
     replace BK110 : Aside0 (w33.heap[gb110]? = some (.cells #[.int .i64 (wrap64 (2 + t108)), u111001] 25 (0, 0))) := ⟨h4_⟩
     replace HI0 : Aside0 (IsS79 w0 w33 g s0_0 t128) := ⟨h5_⟩
     replace HK : Aside0 (KeepBut w w33 g none) := ⟨h6_⟩
     replace HB : Aside0 (Below w0.heap.size w0 w33) := ⟨h7_⟩
     clear h0_ h1_ h2_ h3_ h4_ h5_ h6_ h7_
     have hHeld : w33.cell? ⟨gb110, 0, none⟩ = some (.int .i64 (wrap64 (2 + t108))) ∧ w33.cell? ⟨gb110, 1, none⟩ = some (u111001) := hS_
     refine nm2_ ?_
     refine two_ (i := 17) (j := 19) (Ni := some 33) (Nj := some 5) (bm_ 21 262143) z38_2 rfl rfl rfl rfl (two_of HT_.out (by kernel_rfl)) (by decide) (by decide) (fun K hK => ?_) (fun K hK => ?_)
     ·skip
      refine go_ Tryd.func39 #[.pointer (some ⟨g, 0, none⟩), .int .i64 10] ?_
      with_reducible refine (spec_l30Rd_pick.calls k1 g s0_0 t128 10 t129 t130 w0 _ ?side1 ?side2 A17.out).mono ?_
      (case side1 => exact HI0.out)
      (case side2 => exact HB.out)
      rintro e w34 ⟨rfl, hi, hb, hk⟩
      refine ⟨_, rfl, ?_⟩
      replace HO_111001 := Aside0.mk (Kd.R_mono (Kd.R_keep (IsS79.apart (show IsS79 w0 _ g s0_0 t128 from ni79_38 HI0.out) HO_111001.out (by decide)) hk (fun _ h => h.2)) (fun _ h => h.1))
      replace BK107 := kk_ BK107 hk NB107_0
      replace BK110 := kk_ BK110 hk NB110_0
      replace HO121 := Aside0.mk (Kd.R_mono (Kd.R_keep (IsS79.apart (show IsS79 w0 _ g s0_0 t128 from ni79_38 HI0.out) HO121.out (by decide)) hk (fun _ h => h.2)) (fun _ h => h.1))
      replace HO126 := Aside0.mk (Kd.R_mono (Kd.R_keep (IsS79.apart (show IsS79 w0 _ g s0_0 t128 from ni79_38 HI0.out) HO126.out (by decide)) hk (fun _ h => h.2)) (fun _ h => h.1))
      replace HK := Aside0.mk (KeepBut.trans HK.out hk (.inl rfl))
      replace HB := Aside0.mk (hb)
      replace HI0 := Aside0.mk (hi)
      (try clear hb)
      (try clear hb2)
      (try clear hk)
      (try clear hi)
      refine hK.out _ _ ⟨ct_ BK110.out 0, ct_ BK110.out 1⟩ (fun hHeld => ?_)
      clear hK K
      refine nm1_ (some 33) ?_
      refine pu_ 18 34 z38_1 HT_.out ?_
      exact norm_ nn_ (hJ3_7_10_11_12_14_15_17 (v120, v125) _ ⟨hHeld, HO121.out, HO126.out, HO_111001.out, BK107.out, BK110.out, HI0.out, HK.out, HB.out⟩)
     ·skip
      refine bs_ 5 #[.int .i64 0, .int .i64 0, .int .i64 0, .int .i64 0, .int .i64 0] 54 ?_
      intro gb131 hg w34 hbox hb
      replace HO_111001 := Aside0.mk (rB38 (Kd.R_elderB HO_111001.out gb131 (Nat.le_of_eq hg.symm)) hb)
      replace HO121 := Aside0.mk (rB38 HO121.out hb)
      replace HO126 := Aside0.mk (rB38 HO126.out hb)
      replace HB := Aside0.mk (below_step HB.out hb)
      have BK131 := Aside0.mk (hbox)
      have GW131 := Aside0.mk ((by rw [hg]; exact (keep_size (w := w) (g := g) (row := none) HK.out) : w.heap.size ≤ gb131))
      have GE131 := Aside0.mk ((Nat.le_trans HW0.out (by rw [hg]; exact (keep_size (w := w) (g := g) (row := none) HK.out) : w.heap.size ≤ gb131) : w0.heap.size ≤ gb131))
      replace HK := Aside0.mk (KeepBut.trans HK.out (KeepBut.of_below hb g none) (.inl rfl))
      have NB107_131 := Aside0.mk (nl_ BK107.out hg)
      have NB131_107 := Aside0.mk (nm_ BK107.out hg)
      replace BK107 := kb_ BK107 hb
      have NB110_131 := Aside0.mk (nl_ BK110.out hg)
      have NB131_110 := Aside0.mk (nm_ BK110.out hg)
      replace BK110 := kb_ BK110 hb
      have NB0_131 := Aside0.mk ((by rw [hg]; exact Nat.ne_of_lt (IsS79.lt (show IsS79 w0 _ g s0_0 t128 from ni79_38 HI0.out)) : g ≠ gb131))
      have NB131_0 := Aside0.mk ((by rw [hg]; exact Nat.ne_of_gt (IsS79.lt (show IsS79 w0 _ g s0_0 t128 from ni79_38 HI0.out)) : gb131 ≠ g))
      replace HI0 := Aside0.mk (IsS79.below HI0.out hb)
      clear hb hbox hg
      refine hK.out _ _ ⟨ct_ BK110.out 0, ct_ BK110.out 1⟩ (fun hHeld => ?_)
      clear hK K
      refine nm1_ (some 5) ?_
      exact norm_ nn_ (hJ3_7_10_11_12_14_15_19 (v120, v125, gb131) _ ⟨hHeld, HO121.out, HO126.out, (by (with_reducible repeat (first | apply rA38 | apply rN38 | apply Kd.R_drew)); exact Kd.R_mono HO_111001.out (fun _ hk => by first | exact hk.2 | trivial | simp_all)), BK107.out, BK110.out, BK131.out, GW131.out, GE131.out, NB0_131.out, NB131_0.out, NB107_131.out, NB131_107.out, NB110_131.out, NB131_110.out, HI0.out, HK.out, HB.out⟩)
    intro hJ3_7_10_11_12_14_15
    refine join_ (σ := Value × Value × Nat) 4 z38_4 (fun s_ => [(19, .int .i64 t113), (23, .int .i64 t115), (26, .int .i64 t117), (27, s_.1), (28, .int .i64 t122), (30, s_.2.1), (5, .pointer (some ⟨s_.2.2, 0, none⟩))]) (fun s_ w' => (w'.cell? ⟨gb110, 0, none⟩ = some (.int .i64 (wrap64 (2 + t108))) ∧ w'.cell? ⟨gb110, 1, none⟩ = some (u111001)) ∧ (Kd.R (Kd.int .i64) 3 w' w.heap.size (fun k_ => some k_ ≠ (s_.2.1 : Value).ownBlock) s_.1 y119) ∧ (Kd.R (Kd.int .i64) 3 w' w.heap.size (fun k_ => some k_ ≠ (s_.1 : Value).ownBlock) s_.2.1 y124) ∧ (Kd.R k54 54 w' w.heap.size (fun k_ => k_ ≠ s_.2.2) u111001 x111001_1) ∧ (w'.heap[gb107]? = some (.cells #[.int .i64 0, .slice none 0 0] 25 (0, 0))) ∧ (w'.heap[gb110]? = some (.cells #[.int .i64 (wrap64 (2 + t108)), u111001] 25 (0, 0))) ∧ (w'.heap[s_.2.2]? = some (.cells #[.int .i64 0, .int .i64 0, .int .i64 0, .int .i64 0, .int .i64 0] 54 (0, 0))) ∧ (w.heap.size ≤ s_.2.2) ∧ (w0.heap.size ≤ s_.2.2) ∧ (g ≠ s_.2.2) ∧ (s_.2.2 ≠ g) ∧ (gb107 ≠ s_.2.2) ∧ (s_.2.2 ≠ gb107) ∧ (gb110 ≠ s_.2.2) ∧ (s_.2.2 ≠ gb110) ∧ (IsS79 w0 w' g s0_0 t123) ∧ (KeepBut w w' g none) ∧ (Below w0.heap.size w0 w')) ?_ ?_
    ·skip
     rintro ⟨v120, v125, gb131⟩ w32 ⟨hS_, h0_, h1_, h2_, h3_, h4_, h5_, h6_, h7_, h8_, h9_, h10_, h11_, h12_, h13_, h14_, h15_, h16_⟩
     have HO121 : Aside0 (Kd.R (Kd.int .i64) 3 w32 w.heap.size (fun k_ => some k_ ≠ (v125 : Value).ownBlock) v120 y119) := ⟨h0_⟩
     have HO126 : Aside0 (Kd.R (Kd.int .i64) 3 w32 w.heap.size (fun k_ => some k_ ≠ (v120 : Value).ownBlock) v125 y124) := ⟨h1_⟩
     replace HO_111001 : Aside0 (Kd.R k54 54 w32 w.heap.size (fun k_ => k_ ≠ gb131) u111001 x111001_1) := ⟨h2_⟩
     replace BK107 : Aside0 (w32.heap[gb107]? = some (.cells #[.int .i64 0, .slice none 0 0] 25 (0, 0))) := ⟨h3_⟩
     replace BK110 : Aside0 (w32.heap[gb110]? = some (.cells #[.int .i64 (wrap64 (2 + t108)), u111001] 25 (0, 0))) := ⟨h4_⟩
     have BK131 : Aside0 (w32.heap[gb131]? = some (.cells #[.int .i64 0, .int .i64 0, .int .i64 0, .int .i64 0, .int .i64 0] 54 (0, 0))) := ⟨h5_⟩
     have GW131 : Aside0 (w.heap.size ≤ gb131) := ⟨h6_⟩
     have GE131 : Aside0 (w0.heap.size ≤ gb131) := ⟨h7_⟩
     have NB0_131 : Aside0 (g ≠ gb131) := ⟨h8_⟩
     have NB131_0 : Aside0 (gb131 ≠ g) := ⟨h9_⟩
     have NB107_131 : Aside0 (gb107 ≠ gb131) := ⟨h10_⟩
     have NB131_107 : Aside0 (gb131 ≠ gb107) := ⟨h11_⟩
     have NB110_131 : Aside0 (gb110 ≠ gb131) := ⟨h12_⟩
     have NB131_110 : Aside0 (gb131 ≠ gb110) := ⟨h13_⟩
     replace HI0 : Aside0 (IsS79 w0 w32 g s0_0 t123) := ⟨h14_⟩
     replace HK : Aside0 (KeepBut w w32 g none) := ⟨h15_⟩
     replace HB : Aside0 (Below w0.heap.size w0 w32) := ⟨h16_⟩
     clear h0_ h1_ h2_ h3_ h4_ h5_ h6_ h7_ h8_ h9_ h10_ h11_ h12_ h13_ h14_ h15_ h16_
     have hHeld : w32.cell? ⟨gb110, 0, none⟩ = some (.int .i64 (wrap64 (2 + t108))) ∧ w32.cell? ⟨gb110, 1, none⟩ = some (u111001) := hS_
     obtain ⟨Ao33, co33, eo33⟩ := Kd.R_slice HO126.out
     (first | subst eo33 | (injection eo33 with f1_ f2_ f3_; have f4_ := f1_.symm; have f5_ := f3_.symm; clear f1_ f2_ f3_; subst f4_; subst f5_))
     refine nm2_ ?_
     refine one_ (i := 15) (N := some 31) z38_2 rfl rfl (one_of HT_.out (by kernel_rfl)) (by decide) (fun K hK => ?_)
     refine go_ Tryd.func48 #[.pointer (some ⟨g, 0, none⟩), .slice Ao33 y124.length co33] ?_
     with_reducible refine (spec_l30Rd_one.calls k1 g s0_0 t123 _ _ y124 t127 t128 w0 _ ?side1 ?side2 ?side3 ?side4 ?side5 A16.out).mono ?_
     (case side1 => exact HI0.out)
     (case side2 => exact HB.out)
     (case side3 => exact nc_ (Kd.R_reads' HO126.out).2.2)
     (case side4 => exact (Kd.R_reads' HO126.out).2.1)
     (case side5 => exact far_slice (IsS79.own_ne HI0.out HO126.out (by decide)))
     rintro e w34 ⟨rfl, hi, hb, hk⟩
     refine ⟨_, rfl, ?_⟩
     replace HO_111001 := Aside0.mk (Kd.R_mono (Kd.R_keep (IsS79.apart (show IsS79 w0 _ g s0_0 t123 from ni79_38 HI0.out) HO_111001.out (by decide)) hk (fun _ h => h.2)) (fun _ h => h.1))
     replace BK107 := kk_ BK107 hk NB107_0
     replace BK110 := kk_ BK110 hk NB110_0
     replace HO121 := Aside0.mk (Kd.R_mono (Kd.R_keep (IsS79.apart (show IsS79 w0 _ g s0_0 t123 from ni79_38 HI0.out) HO121.out (by decide)) hk (fun _ h => h.2)) (fun _ h => h.1))
     replace HO126 := Aside0.mk (Kd.R_mono (Kd.R_keep (IsS79.apart (show IsS79 w0 _ g s0_0 t123 from ni79_38 HI0.out) HO126.out (by decide)) hk (fun _ h => h.2)) (fun _ h => h.1))
     replace BK131 := kk_ BK131 hk NB131_0
     replace HK := Aside0.mk (KeepBut.trans HK.out hk (.inl rfl))
     replace HB := Aside0.mk (hb)
     replace HI0 := Aside0.mk (hi)
     (try clear hb)
     (try clear hb2)
     (try clear hk)
     (try clear hi)
     refine hK.out _ _ ⟨ct_ BK110.out 0, ct_ BK110.out 1⟩ (fun hHeld => ?_)
     clear hK K
     refine nm1_ (some 31) ?_
     exact norm_ nn_ (hJ3_7_10_11_12_14_15_19 (v120, .slice Ao33 y124.length co33, gb131) _ ⟨hHeld, HO121.out, HO126.out, HO_111001.out, BK107.out, BK110.out, BK131.out, GW131.out, GE131.out, NB0_131.out, NB131_0.out, NB107_131.out, NB131_107.out, NB110_131.out, NB131_110.out, HI0.out, HK.out, HB.out⟩)
    intro hJ3_7_10_11_12_14_19
    refine join_ (σ := Value × Value) 5 z38_5 (fun s_ => [(19, .int .i64 t113), (23, .int .i64 t115), (26, .int .i64 t117), (27, s_.1), (28, .int .i64 t122), (30, s_.2)]) (fun s_ w' => (w'.cell? ⟨gb110, 0, none⟩ = some (.int .i64 (wrap64 (2 + t108))) ∧ w'.cell? ⟨gb110, 1, none⟩ = some (u111001)) ∧ (Kd.R (Kd.int .i64) 3 w' w.heap.size (fun k_ => some k_ ≠ (s_.2 : Value).ownBlock) s_.1 y119) ∧ (Kd.R (Kd.int .i64) 3 w' w.heap.size (fun k_ => some k_ ≠ (s_.1 : Value).ownBlock) s_.2 y124) ∧ (Kd.R k54 54 w' w.heap.size (fun _ => True) u111001 x111001_1) ∧ (w'.heap[gb107]? = some (.cells #[.int .i64 0, .slice none 0 0] 25 (0, 0))) ∧ (w'.heap[gb110]? = some (.cells #[.int .i64 (wrap64 (2 + t108)), u111001] 25 (0, 0))) ∧ (IsS79 w0 w' g s0_0 t123) ∧ (KeepBut w w' g none) ∧ (Below w0.heap.size w0 w')) ?_ ?_
    ·skip
     rintro ⟨v120, v125⟩ w31 ⟨hS_, h0_, h1_, h2_, h3_, h4_, h5_, h6_, h7_⟩
     have HO121 : Aside0 (Kd.R (Kd.int .i64) 3 w31 w.heap.size (fun k_ => some k_ ≠ (v125 : Value).ownBlock) v120 y119) := ⟨h0_⟩
     have HO126 : Aside0 (Kd.R (Kd.int .i64) 3 w31 w.heap.size (fun k_ => some k_ ≠ (v120 : Value).ownBlock) v125 y124) := ⟨h1_⟩
     replace HO_111001 : Aside0 (Kd.R k54 54 w31 w.heap.size (fun _ => True) u111001 x111001_1) := ⟨h2_⟩
     replace BK107 : Aside0 (w31.heap[gb107]? = some (.cells #[.int .i64 0, .slice none 0 0] 25 (0, 0))) := ⟨h3_⟩
     replace BK110 : Aside0 (w31.heap[gb110]? = some (.cells #[.int .i64 (wrap64 (2 + t108)), u111001] 25 (0, 0))) := ⟨h4_⟩
     replace HI0 : Aside0 (IsS79 w0 w31 g s0_0 t123) := ⟨h5_⟩
     replace HK : Aside0 (KeepBut w w31 g none) := ⟨h6_⟩
     replace HB : Aside0 (Below w0.heap.size w0 w31) := ⟨h7_⟩
     clear h0_ h1_ h2_ h3_ h4_ h5_ h6_ h7_
     have hHeld : w31.cell? ⟨gb110, 0, none⟩ = some (.int .i64 (wrap64 (2 + t108))) ∧ w31.cell? ⟨gb110, 1, none⟩ = some (u111001) := hS_
     obtain ⟨Ao32, co32, eo32⟩ := Kd.R_slice HO126.out
     (first | subst eo32 | (injection eo32 with f1_ f2_ f3_; have f4_ := f1_.symm; have f5_ := f3_.symm; clear f1_ f2_ f3_; subst f4_; subst f5_))
     refine nm2_ ?_
     refine two_ (i := 15) (j := 19) (Ni := some 31) (Nj := some 5) z38_3 z38_4 rfl rfl rfl rfl (two_of HT_.out (by kernel_rfl)) (by decide) (by decide) (fun K hK => ?_) (fun K hK => ?_)
     ·skip
      refine go_ Tryd.func48 #[.pointer (some ⟨g, 0, none⟩), .slice Ao32 y124.length co32] ?_
      with_reducible refine (spec_l30Rd_one.calls k1 g s0_0 t123 _ _ y124 t127 t128 w0 _ ?side1 ?side2 ?side3 ?side4 ?side5 A16.out).mono ?_
      (case side1 => exact HI0.out)
      (case side2 => exact HB.out)
      (case side3 => exact nc_ (Kd.R_reads' HO126.out).2.2)
      (case side4 => exact (Kd.R_reads' HO126.out).2.1)
      (case side5 => exact far_slice (IsS79.own_ne HI0.out HO126.out (by decide)))
      rintro e w33 ⟨rfl, hi, hb, hk⟩
      refine ⟨_, rfl, ?_⟩
      replace HO_111001 := Aside0.mk (Kd.R_mono (Kd.R_keep (IsS79.apart (show IsS79 w0 _ g s0_0 t123 from ni79_38 HI0.out) HO_111001.out (by decide)) hk (fun _ h => h.2)) (fun _ h => h.1))
      replace BK107 := kk_ BK107 hk NB107_0
      replace BK110 := kk_ BK110 hk NB110_0
      replace HO121 := Aside0.mk (Kd.R_mono (Kd.R_keep (IsS79.apart (show IsS79 w0 _ g s0_0 t123 from ni79_38 HI0.out) HO121.out (by decide)) hk (fun _ h => h.2)) (fun _ h => h.1))
      replace HO126 := Aside0.mk (Kd.R_mono (Kd.R_keep (IsS79.apart (show IsS79 w0 _ g s0_0 t123 from ni79_38 HI0.out) HO126.out (by decide)) hk (fun _ h => h.2)) (fun _ h => h.1))
      replace HK := Aside0.mk (KeepBut.trans HK.out hk (.inl rfl))
      replace HB := Aside0.mk (hb)
      replace HI0 := Aside0.mk (hi)
      (try clear hb)
      (try clear hb2)
      (try clear hk)
      (try clear hi)
      refine hK.out _ _ ⟨ct_ BK110.out 0, ct_ BK110.out 1⟩ (fun hHeld => ?_)
      clear hK K
      refine nm1_ (some 31) ?_
      exact norm_ nn_ (hJ3_7_10_11_12_14_15 (v120, .slice Ao32 y124.length co32) _ ⟨hHeld, HO121.out, HO126.out, HO_111001.out, BK107.out, BK110.out, HI0.out, HK.out, HB.out⟩)
     ·skip
      refine bs_ 5 #[.int .i64 0, .int .i64 0, .int .i64 0, .int .i64 0, .int .i64 0] 54 ?_
      intro gb131 hg w32 hbox hb
      replace HO_111001 := Aside0.mk (rB38 (Kd.R_elderB HO_111001.out gb131 (Nat.le_of_eq hg.symm)) hb)
      replace HO121 := Aside0.mk (rB38 HO121.out hb)
      replace HO126 := Aside0.mk (rB38 HO126.out hb)
      replace HB := Aside0.mk (below_step HB.out hb)
      have BK131 := Aside0.mk (hbox)
      have GW131 := Aside0.mk ((by rw [hg]; exact (keep_size (w := w) (g := g) (row := none) HK.out) : w.heap.size ≤ gb131))
      have GE131 := Aside0.mk ((Nat.le_trans HW0.out (by rw [hg]; exact (keep_size (w := w) (g := g) (row := none) HK.out) : w.heap.size ≤ gb131) : w0.heap.size ≤ gb131))
      replace HK := Aside0.mk (KeepBut.trans HK.out (KeepBut.of_below hb g none) (.inl rfl))
      have NB107_131 := Aside0.mk (nl_ BK107.out hg)
      have NB131_107 := Aside0.mk (nm_ BK107.out hg)
      replace BK107 := kb_ BK107 hb
      have NB110_131 := Aside0.mk (nl_ BK110.out hg)
      have NB131_110 := Aside0.mk (nm_ BK110.out hg)
      replace BK110 := kb_ BK110 hb
      have NB0_131 := Aside0.mk ((by rw [hg]; exact Nat.ne_of_lt (IsS79.lt (show IsS79 w0 _ g s0_0 t123 from ni79_38 HI0.out)) : g ≠ gb131))
      have NB131_0 := Aside0.mk ((by rw [hg]; exact Nat.ne_of_gt (IsS79.lt (show IsS79 w0 _ g s0_0 t123 from ni79_38 HI0.out)) : gb131 ≠ g))
      replace HI0 := Aside0.mk (IsS79.below HI0.out hb)
      clear hb hbox hg
      refine hK.out _ _ ⟨ct_ BK110.out 0, ct_ BK110.out 1⟩ (fun hHeld => ?_)
      clear hK K
      refine nm1_ (some 5) ?_
      exact norm_ nn_ (hJ3_7_10_11_12_14_19 (v120, (.slice Ao32 y124.length co32), gb131) _ ⟨hHeld, HO121.out, HO126.out, (by (with_reducible repeat (first | apply rA38 | apply rN38 | apply Kd.R_drew)); exact Kd.R_mono HO_111001.out (fun _ hk => by first | exact hk.2 | trivial | simp_all)), BK107.out, BK110.out, BK131.out, GW131.out, GE131.out, NB0_131.out, NB131_0.out, NB107_131.out, NB131_107.out, NB110_131.out, NB131_110.out, HI0.out, HK.out, HB.out⟩)
    intro hJ3_7_10_11_12_14
    refine join_ (σ := Value × Nat) 5 z38_6 (fun s_ => [(19, .int .i64 t113), (23, .int .i64 t115), (26, .int .i64 t117), (27, s_.1), (28, .int .i64 t122), (5, .pointer (some ⟨s_.2, 0, none⟩))]) (fun s_ w' => (w'.cell? ⟨gb110, 0, none⟩ = some (.int .i64 (wrap64 (2 + t108))) ∧ w'.cell? ⟨gb110, 1, none⟩ = some (u111001)) ∧ (Kd.R (Kd.int .i64) 3 w' w.heap.size (fun _ => True) s_.1 y119) ∧ (Kd.R k54 54 w' w.heap.size (fun k_ => k_ ≠ s_.2) u111001 x111001_1) ∧ (w'.heap[gb107]? = some (.cells #[.int .i64 0, .slice none 0 0] 25 (0, 0))) ∧ (w'.heap[gb110]? = some (.cells #[.int .i64 (wrap64 (2 + t108)), u111001] 25 (0, 0))) ∧ (w'.heap[s_.2]? = some (.cells #[.int .i64 0, .int .i64 0, .int .i64 0, .int .i64 0, .int .i64 0] 54 (0, 0))) ∧ (w.heap.size ≤ s_.2) ∧ (w0.heap.size ≤ s_.2) ∧ (g ≠ s_.2) ∧ (s_.2 ≠ g) ∧ (gb107 ≠ s_.2) ∧ (s_.2 ≠ gb107) ∧ (gb110 ≠ s_.2) ∧ (s_.2 ≠ gb110) ∧ (IsS79 w0 w' g s0_0 t123) ∧ (KeepBut w w' g none) ∧ (Below w0.heap.size w0 w')) ?_ ?_
    ·skip
     rintro ⟨v120, gb131⟩ w30 ⟨hS_, h0_, h1_, h2_, h3_, h4_, h5_, h6_, h7_, h8_, h9_, h10_, h11_, h12_, h13_, h14_, h15_⟩
     have HO121 : Aside0 (Kd.R (Kd.int .i64) 3 w30 w.heap.size (fun _ => True) v120 y119) := ⟨h0_⟩
     replace HO_111001 : Aside0 (Kd.R k54 54 w30 w.heap.size (fun k_ => k_ ≠ gb131) u111001 x111001_1) := ⟨h1_⟩
     replace BK107 : Aside0 (w30.heap[gb107]? = some (.cells #[.int .i64 0, .slice none 0 0] 25 (0, 0))) := ⟨h2_⟩
     replace BK110 : Aside0 (w30.heap[gb110]? = some (.cells #[.int .i64 (wrap64 (2 + t108)), u111001] 25 (0, 0))) := ⟨h3_⟩
     have BK131 : Aside0 (w30.heap[gb131]? = some (.cells #[.int .i64 0, .int .i64 0, .int .i64 0, .int .i64 0, .int .i64 0] 54 (0, 0))) := ⟨h4_⟩
     have GW131 : Aside0 (w.heap.size ≤ gb131) := ⟨h5_⟩
     have GE131 : Aside0 (w0.heap.size ≤ gb131) := ⟨h6_⟩
     have NB0_131 : Aside0 (g ≠ gb131) := ⟨h7_⟩
     have NB131_0 : Aside0 (gb131 ≠ g) := ⟨h8_⟩
     have NB107_131 : Aside0 (gb107 ≠ gb131) := ⟨h9_⟩
     have NB131_107 : Aside0 (gb131 ≠ gb107) := ⟨h10_⟩
     have NB110_131 : Aside0 (gb110 ≠ gb131) := ⟨h11_⟩
     have NB131_110 : Aside0 (gb131 ≠ gb110) := ⟨h12_⟩
     replace HI0 : Aside0 (IsS79 w0 w30 g s0_0 t123) := ⟨h13_⟩
     replace HK : Aside0 (KeepBut w w30 g none) := ⟨h14_⟩
     replace HB : Aside0 (Below w0.heap.size w0 w30) := ⟨h15_⟩
     clear h0_ h1_ h2_ h3_ h4_ h5_ h6_ h7_ h8_ h9_ h10_ h11_ h12_ h13_ h14_ h15_
     have hHeld : w30.cell? ⟨gb110, 0, none⟩ = some (.int .i64 (wrap64 (2 + t108))) ∧ w30.cell? ⟨gb110, 1, none⟩ = some (u111001) := hS_
     refine nm2_ ?_
     refine one_ (i := 14) (N := some 30) z38_4 rfl rfl (one_of HT_.out (by kernel_rfl)) (by decide) (fun K hK => ?_)
     refine ls_ 30 3 [0, 0, 3, 8] [.int .i64 0, .int .i64 0, .int .i64 3, .int .i64 8] ?_
     intro v125 w31 ho32 hb hg_ hnew_
     clear hg_ hnew_
     (first | rw [← Ny124.out] at ho32 | (simp only [Int.reduceToNat] at ho32; rw [← Ny124.out] at ho32))
     replace HO_111001 := Aside0.mk (rB38 HO_111001.out hb)
     have HO126 := Aside0.mk (Kd.R_lower (Kd.R_new' ho32 (Kd.R_lt HO121.out)) (keep_size (w := w) (g := g) (row := none) HK.out))
     replace HO121 := Aside0.mk (Kd.R_elder' HO121.out (Kd.R_base ho32) hb)
     replace BK107 := kb_ BK107 hb
     replace BK110 := kb_ BK110 hb
     replace HI0 := Aside0.mk (IsS79.below HI0.out hb)
     replace BK131 := kb_ BK131 hb
     replace HK := Aside0.mk (KeepBut.trans HK.out (KeepBut.of_below hb g none) (.inl rfl))
     replace HB := Aside0.mk (below_step HB.out hb)
     clear hb ho32
     refine hK.out _ _ ⟨ct_ BK110.out 0, ct_ BK110.out 1⟩ (fun hHeld => ?_)
     clear hK K
     refine nm1_ (some 30) ?_
     exact norm_ nn_ (hJ3_7_10_11_12_14_19 (v120, v125, gb131) _ ⟨hHeld, (by (with_reducible repeat (first | apply rA38 | apply rN38 | apply Kd.R_drew)); exact Kd.R_mono HO121.out (fun _ hk => by first | exact hk.2 | trivial | simp_all)), (by (with_reducible repeat (first | apply rA38 | apply rN38 | apply Kd.R_drew)); exact Kd.R_mono HO126.out (fun _ hk => by first | exact hk.2 | trivial | simp_all)), HO_111001.out, BK107.out, BK110.out, BK131.out, GW131.out, GE131.out, NB0_131.out, NB131_0.out, NB107_131.out, NB131_107.out, NB110_131.out, NB131_110.out, HI0.out, HK.out, HB.out⟩)
    intro hJ3_7_10_11_12_19
    refine join_ (σ := Value × Value × Nat) 5 z38_7 (fun s_ => [(19, .int .i64 t113), (23, .int .i64 t115), (26, .int .i64 t117), (27, s_.1), (30, s_.2.1), (5, .pointer (some ⟨s_.2.2, 0, none⟩))]) (fun s_ w' => (w'.cell? ⟨gb110, 0, none⟩ = some (.int .i64 (wrap64 (2 + t108))) ∧ w'.cell? ⟨gb110, 1, none⟩ = some (u111001)) ∧ (Kd.R (Kd.int .i64) 3 w' w.heap.size (fun k_ => some k_ ≠ (s_.2.1 : Value).ownBlock) s_.1 y119) ∧ (Kd.R (Kd.int .i64) 3 w' w.heap.size (fun k_ => some k_ ≠ (s_.1 : Value).ownBlock) s_.2.1 y124) ∧ (Kd.R k54 54 w' w.heap.size (fun k_ => k_ ≠ s_.2.2) u111001 x111001_1) ∧ (w'.heap[gb107]? = some (.cells #[.int .i64 0, .slice none 0 0] 25 (0, 0))) ∧ (w'.heap[gb110]? = some (.cells #[.int .i64 (wrap64 (2 + t108)), u111001] 25 (0, 0))) ∧ (w'.heap[s_.2.2]? = some (.cells #[.int .i64 0, .int .i64 0, .int .i64 0, .int .i64 0, .int .i64 0] 54 (0, 0))) ∧ (w.heap.size ≤ s_.2.2) ∧ (w0.heap.size ≤ s_.2.2) ∧ (g ≠ s_.2.2) ∧ (s_.2.2 ≠ g) ∧ (gb107 ≠ s_.2.2) ∧ (s_.2.2 ≠ gb107) ∧ (gb110 ≠ s_.2.2) ∧ (s_.2.2 ≠ gb110) ∧ (IsS79 w0 w' g s0_0 t118) ∧ (KeepBut w w' g none) ∧ (Below w0.heap.size w0 w')) ?_ ?_
    ·skip
     rintro ⟨v120, v125, gb131⟩ w30 ⟨hS_, h0_, h1_, h2_, h3_, h4_, h5_, h6_, h7_, h8_, h9_, h10_, h11_, h12_, h13_, h14_, h15_, h16_⟩
     have HO121 : Aside0 (Kd.R (Kd.int .i64) 3 w30 w.heap.size (fun k_ => some k_ ≠ (v125 : Value).ownBlock) v120 y119) := ⟨h0_⟩
     have HO126 : Aside0 (Kd.R (Kd.int .i64) 3 w30 w.heap.size (fun k_ => some k_ ≠ (v120 : Value).ownBlock) v125 y124) := ⟨h1_⟩
     replace HO_111001 : Aside0 (Kd.R k54 54 w30 w.heap.size (fun k_ => k_ ≠ gb131) u111001 x111001_1) := ⟨h2_⟩
     replace BK107 : Aside0 (w30.heap[gb107]? = some (.cells #[.int .i64 0, .slice none 0 0] 25 (0, 0))) := ⟨h3_⟩
     replace BK110 : Aside0 (w30.heap[gb110]? = some (.cells #[.int .i64 (wrap64 (2 + t108)), u111001] 25 (0, 0))) := ⟨h4_⟩
     have BK131 : Aside0 (w30.heap[gb131]? = some (.cells #[.int .i64 0, .int .i64 0, .int .i64 0, .int .i64 0, .int .i64 0] 54 (0, 0))) := ⟨h5_⟩
     have GW131 : Aside0 (w.heap.size ≤ gb131) := ⟨h6_⟩
     have GE131 : Aside0 (w0.heap.size ≤ gb131) := ⟨h7_⟩
     have NB0_131 : Aside0 (g ≠ gb131) := ⟨h8_⟩
     have NB131_0 : Aside0 (gb131 ≠ g) := ⟨h9_⟩
     have NB107_131 : Aside0 (gb107 ≠ gb131) := ⟨h10_⟩
     have NB131_107 : Aside0 (gb131 ≠ gb107) := ⟨h11_⟩
     have NB110_131 : Aside0 (gb110 ≠ gb131) := ⟨h12_⟩
     have NB131_110 : Aside0 (gb131 ≠ gb110) := ⟨h13_⟩
     replace HI0 : Aside0 (IsS79 w0 w30 g s0_0 t118) := ⟨h14_⟩
     replace HK : Aside0 (KeepBut w w30 g none) := ⟨h15_⟩
     replace HB : Aside0 (Below w0.heap.size w0 w30) := ⟨h16_⟩
     clear h0_ h1_ h2_ h3_ h4_ h5_ h6_ h7_ h8_ h9_ h10_ h11_ h12_ h13_ h14_ h15_ h16_
     have hHeld : w30.cell? ⟨gb110, 0, none⟩ = some (.int .i64 (wrap64 (2 + t108))) ∧ w30.cell? ⟨gb110, 1, none⟩ = some (u111001) := hS_
     obtain ⟨Ao31, co31, eo31⟩ := Kd.R_slice HO121.out
     (first | subst eo31 | (injection eo31 with f1_ f2_ f3_; have f4_ := f1_.symm; have f5_ := f3_.symm; clear f1_ f2_ f3_; subst f4_; subst f5_))
     refine nm2_ ?_
     refine one_ (i := 12) (N := some 28) z38_4 rfl rfl (one_of HT_.out (by kernel_rfl)) (by decide) (fun K hK => ?_)
     refine go_ Tryd.func48 #[.pointer (some ⟨g, 0, none⟩), .slice Ao31 y119.length co31] ?_
     with_reducible refine (spec_l30Rd_one.calls k1 g s0_0 t118 _ _ y119 t122 t123 w0 _ ?side1 ?side2 ?side3 ?side4 ?side5 A15.out).mono ?_
     (case side1 => exact HI0.out)
     (case side2 => exact HB.out)
     (case side3 => exact nc_ (Kd.R_reads' HO121.out).2.2)
     (case side4 => exact (Kd.R_reads' HO121.out).2.1)
     (case side5 => exact far_slice (IsS79.own_ne HI0.out HO121.out (by decide)))
     rintro e w32 ⟨rfl, hi, hb, hk⟩
     refine ⟨_, rfl, ?_⟩
     replace HO_111001 := Aside0.mk (Kd.R_mono (Kd.R_keep (IsS79.apart (show IsS79 w0 _ g s0_0 t118 from ni79_38 HI0.out) HO_111001.out (by decide)) hk (fun _ h => h.2)) (fun _ h => h.1))
     replace BK107 := kk_ BK107 hk NB107_0
     replace BK110 := kk_ BK110 hk NB110_0
     replace HO121 := Aside0.mk (Kd.R_mono (Kd.R_keep (IsS79.apart (show IsS79 w0 _ g s0_0 t118 from ni79_38 HI0.out) HO121.out (by decide)) hk (fun _ h => h.2)) (fun _ h => h.1))
     replace HO126 := Aside0.mk (Kd.R_mono (Kd.R_keep (IsS79.apart (show IsS79 w0 _ g s0_0 t118 from ni79_38 HI0.out) HO126.out (by decide)) hk (fun _ h => h.2)) (fun _ h => h.1))
     replace BK131 := kk_ BK131 hk NB131_0
     replace HK := Aside0.mk (KeepBut.trans HK.out hk (.inl rfl))
     replace HB := Aside0.mk (hb)
     replace HI0 := Aside0.mk (hi)
     (try clear hb)
     (try clear hb2)
     (try clear hk)
     (try clear hi)
     refine hK.out _ _ ⟨ct_ BK110.out 0, ct_ BK110.out 1⟩ (fun hHeld => ?_)
     clear hK K
     refine nm1_ (some 28) ?_
     exact norm_ nn_ (hJ3_7_10_11_12_14_19 (.slice Ao31 y119.length co31, v125, gb131) _ ⟨hHeld, HO121.out, HO126.out, HO_111001.out, BK107.out, BK110.out, BK131.out, GW131.out, GE131.out, NB0_131.out, NB131_0.out, NB107_131.out, NB131_107.out, NB110_131.out, NB131_110.out, HI0.out, HK.out, HB.out⟩)
    intro hJ3_7_10_11_14_19
    refine join_ (σ := Value) 6 z38_8 (fun s_ => [(19, .int .i64 t113), (23, .int .i64 t115), (26, .int .i64 t117), (27, s_), (28, .int .i64 t122)]) (fun s_ w' => (w'.cell? ⟨gb110, 0, none⟩ = some (.int .i64 (wrap64 (2 + t108))) ∧ w'.cell? ⟨gb110, 1, none⟩ = some (u111001)) ∧ (Kd.R (Kd.int .i64) 3 w' w.heap.size (fun _ => True) s_ y119) ∧ (Kd.R k54 54 w' w.heap.size (fun _ => True) u111001 x111001_1) ∧ (w'.heap[gb107]? = some (.cells #[.int .i64 0, .slice none 0 0] 25 (0, 0))) ∧ (w'.heap[gb110]? = some (.cells #[.int .i64 (wrap64 (2 + t108)), u111001] 25 (0, 0))) ∧ (IsS79 w0 w' g s0_0 t123) ∧ (KeepBut w w' g none) ∧ (Below w0.heap.size w0 w')) ?_ ?_
    ·skip
     rintro v120 w29 ⟨hS_, h0_, h1_, h2_, h3_, h4_, h5_, h6_⟩
     have HO121 : Aside0 (Kd.R (Kd.int .i64) 3 w29 w.heap.size (fun _ => True) v120 y119) := ⟨h0_⟩
     replace HO_111001 : Aside0 (Kd.R k54 54 w29 w.heap.size (fun _ => True) u111001 x111001_1) := ⟨h1_⟩
     replace BK107 : Aside0 (w29.heap[gb107]? = some (.cells #[.int .i64 0, .slice none 0 0] 25 (0, 0))) := ⟨h2_⟩
     replace BK110 : Aside0 (w29.heap[gb110]? = some (.cells #[.int .i64 (wrap64 (2 + t108)), u111001] 25 (0, 0))) := ⟨h3_⟩
     replace HI0 : Aside0 (IsS79 w0 w29 g s0_0 t123) := ⟨h4_⟩
     replace HK : Aside0 (KeepBut w w29 g none) := ⟨h5_⟩
     replace HB : Aside0 (Below w0.heap.size w0 w29) := ⟨h6_⟩
     clear h0_ h1_ h2_ h3_ h4_ h5_ h6_
     have hHeld : w29.cell? ⟨gb110, 0, none⟩ = some (.int .i64 (wrap64 (2 + t108))) ∧ w29.cell? ⟨gb110, 1, none⟩ = some (u111001) := hS_
     refine nm2_ ?_
     refine two_ (i := 14) (j := 19) (Ni := some 30) (Nj := some 5) z38_5 z38_6 rfl rfl rfl rfl (two_of HT_.out (by kernel_rfl)) (by decide) (by decide) (fun K hK => ?_) (fun K hK => ?_)
     ·skip
      refine ls_ 30 3 [0, 0, 3, 8] [.int .i64 0, .int .i64 0, .int .i64 3, .int .i64 8] ?_
      intro v125 w30 ho31 hb hg_ hnew_
      clear hg_ hnew_
      (first | rw [← Ny124.out] at ho31 | (simp only [Int.reduceToNat] at ho31; rw [← Ny124.out] at ho31))
      replace HO_111001 := Aside0.mk (rB38 HO_111001.out hb)
      have HO126 := Aside0.mk (Kd.R_lower (Kd.R_new' ho31 (Kd.R_lt HO121.out)) (keep_size (w := w) (g := g) (row := none) HK.out))
      replace HO121 := Aside0.mk (Kd.R_elder' HO121.out (Kd.R_base ho31) hb)
      replace BK107 := kb_ BK107 hb
      replace BK110 := kb_ BK110 hb
      replace HI0 := Aside0.mk (IsS79.below HI0.out hb)
      replace HK := Aside0.mk (KeepBut.trans HK.out (KeepBut.of_below hb g none) (.inl rfl))
      replace HB := Aside0.mk (below_step HB.out hb)
      clear hb ho31
      refine hK.out _ _ ⟨ct_ BK110.out 0, ct_ BK110.out 1⟩ (fun hHeld => ?_)
      clear hK K
      refine nm1_ (some 30) ?_
      exact norm_ nn_ (hJ3_7_10_11_12_14 (v120, v125) _ ⟨hHeld, (by (with_reducible repeat (first | apply rA38 | apply rN38 | apply Kd.R_drew)); exact Kd.R_mono HO121.out (fun _ hk => by first | exact hk.2 | trivial | simp_all)), (by (with_reducible repeat (first | apply rA38 | apply rN38 | apply Kd.R_drew)); exact Kd.R_mono HO126.out (fun _ hk => by first | exact hk.2 | trivial | simp_all)), HO_111001.out, BK107.out, BK110.out, HI0.out, HK.out, HB.out⟩)
     ·skip
      refine bs_ 5 #[.int .i64 0, .int .i64 0, .int .i64 0, .int .i64 0, .int .i64 0] 54 ?_
      intro gb131 hg w30 hbox hb
      replace HO_111001 := Aside0.mk (rB38 (Kd.R_elderB HO_111001.out gb131 (Nat.le_of_eq hg.symm)) hb)
      replace HO121 := Aside0.mk (rB38 HO121.out hb)
      replace HB := Aside0.mk (below_step HB.out hb)
      have BK131 := Aside0.mk (hbox)
      have GW131 := Aside0.mk ((by rw [hg]; exact (keep_size (w := w) (g := g) (row := none) HK.out) : w.heap.size ≤ gb131))
      have GE131 := Aside0.mk ((Nat.le_trans HW0.out (by rw [hg]; exact (keep_size (w := w) (g := g) (row := none) HK.out) : w.heap.size ≤ gb131) : w0.heap.size ≤ gb131))
      replace HK := Aside0.mk (KeepBut.trans HK.out (KeepBut.of_below hb g none) (.inl rfl))
      have NB107_131 := Aside0.mk (nl_ BK107.out hg)
      have NB131_107 := Aside0.mk (nm_ BK107.out hg)
      replace BK107 := kb_ BK107 hb
      have NB110_131 := Aside0.mk (nl_ BK110.out hg)
      have NB131_110 := Aside0.mk (nm_ BK110.out hg)
      replace BK110 := kb_ BK110 hb
      have NB0_131 := Aside0.mk ((by rw [hg]; exact Nat.ne_of_lt (IsS79.lt (show IsS79 w0 _ g s0_0 t123 from ni79_38 HI0.out)) : g ≠ gb131))
      have NB131_0 := Aside0.mk ((by rw [hg]; exact Nat.ne_of_gt (IsS79.lt (show IsS79 w0 _ g s0_0 t123 from ni79_38 HI0.out)) : gb131 ≠ g))
      replace HI0 := Aside0.mk (IsS79.below HI0.out hb)
      clear hb hbox hg
      refine hK.out _ _ ⟨ct_ BK110.out 0, ct_ BK110.out 1⟩ (fun hHeld => ?_)
      clear hK K
      refine nm1_ (some 5) ?_
      exact norm_ nn_ (hJ3_7_10_11_12_19 (v120, gb131) _ ⟨hHeld, HO121.out, (by (with_reducible repeat (first | apply rA38 | apply rN38 | apply Kd.R_drew)); exact Kd.R_mono HO_111001.out (fun _ hk => by first | exact hk.2 | trivial | simp_all)), BK107.out, BK110.out, BK131.out, GW131.out, GE131.out, NB0_131.out, NB131_0.out, NB107_131.out, NB131_107.out, NB110_131.out, NB131_110.out, HI0.out, HK.out, HB.out⟩)
    intro hJ3_7_10_11_12
    refine join_ (σ := Value × Value) 6 z38_9 (fun s_ => [(19, .int .i64 t113), (23, .int .i64 t115), (26, .int .i64 t117), (27, s_.1), (30, s_.2)]) (fun s_ w' => (w'.cell? ⟨gb110, 0, none⟩ = some (.int .i64 (wrap64 (2 + t108))) ∧ w'.cell? ⟨gb110, 1, none⟩ = some (u111001)) ∧ (Kd.R (Kd.int .i64) 3 w' w.heap.size (fun k_ => some k_ ≠ (s_.2 : Value).ownBlock) s_.1 y119) ∧ (Kd.R (Kd.int .i64) 3 w' w.heap.size (fun k_ => some k_ ≠ (s_.1 : Value).ownBlock) s_.2 y124) ∧ (Kd.R k54 54 w' w.heap.size (fun _ => True) u111001 x111001_1) ∧ (w'.heap[gb107]? = some (.cells #[.int .i64 0, .slice none 0 0] 25 (0, 0))) ∧ (w'.heap[gb110]? = some (.cells #[.int .i64 (wrap64 (2 + t108)), u111001] 25 (0, 0))) ∧ (IsS79 w0 w' g s0_0 t118) ∧ (KeepBut w w' g none) ∧ (Below w0.heap.size w0 w')) ?_ ?_
    ·skip
     rintro ⟨v120, v125⟩ w29 ⟨hS_, h0_, h1_, h2_, h3_, h4_, h5_, h6_, h7_⟩
     have HO121 : Aside0 (Kd.R (Kd.int .i64) 3 w29 w.heap.size (fun k_ => some k_ ≠ (v125 : Value).ownBlock) v120 y119) := ⟨h0_⟩
     have HO126 : Aside0 (Kd.R (Kd.int .i64) 3 w29 w.heap.size (fun k_ => some k_ ≠ (v120 : Value).ownBlock) v125 y124) := ⟨h1_⟩
     replace HO_111001 : Aside0 (Kd.R k54 54 w29 w.heap.size (fun _ => True) u111001 x111001_1) := ⟨h2_⟩
     replace BK107 : Aside0 (w29.heap[gb107]? = some (.cells #[.int .i64 0, .slice none 0 0] 25 (0, 0))) := ⟨h3_⟩
     replace BK110 : Aside0 (w29.heap[gb110]? = some (.cells #[.int .i64 (wrap64 (2 + t108)), u111001] 25 (0, 0))) := ⟨h4_⟩
     replace HI0 : Aside0 (IsS79 w0 w29 g s0_0 t118) := ⟨h5_⟩
     replace HK : Aside0 (KeepBut w w29 g none) := ⟨h6_⟩
     replace HB : Aside0 (Below w0.heap.size w0 w29) := ⟨h7_⟩
     clear h0_ h1_ h2_ h3_ h4_ h5_ h6_ h7_
     have hHeld : w29.cell? ⟨gb110, 0, none⟩ = some (.int .i64 (wrap64 (2 + t108))) ∧ w29.cell? ⟨gb110, 1, none⟩ = some (u111001) := hS_
     obtain ⟨Ao30, co30, eo30⟩ := Kd.R_slice HO121.out
     (first | subst eo30 | (injection eo30 with f1_ f2_ f3_; have f4_ := f1_.symm; have f5_ := f3_.symm; clear f1_ f2_ f3_; subst f4_; subst f5_))
     refine nm2_ ?_
     refine two_ (i := 12) (j := 19) (Ni := some 28) (Nj := some 5) z38_5 z38_7 rfl rfl rfl rfl (two_of HT_.out (by kernel_rfl)) (by decide) (by decide) (fun K hK => ?_) (fun K hK => ?_)
     ·skip
      refine go_ Tryd.func48 #[.pointer (some ⟨g, 0, none⟩), .slice Ao30 y119.length co30] ?_
      with_reducible refine (spec_l30Rd_one.calls k1 g s0_0 t118 _ _ y119 t122 t123 w0 _ ?side1 ?side2 ?side3 ?side4 ?side5 A15.out).mono ?_
      (case side1 => exact HI0.out)
      (case side2 => exact HB.out)
      (case side3 => exact nc_ (Kd.R_reads' HO121.out).2.2)
      (case side4 => exact (Kd.R_reads' HO121.out).2.1)
      (case side5 => exact far_slice (IsS79.own_ne HI0.out HO121.out (by decide)))
      rintro e w31 ⟨rfl, hi, hb, hk⟩
      refine ⟨_, rfl, ?_⟩
      replace HO_111001 := Aside0.mk (Kd.R_mono (Kd.R_keep (IsS79.apart (show IsS79 w0 _ g s0_0 t118 from ni79_38 HI0.out) HO_111001.out (by decide)) hk (fun _ h => h.2)) (fun _ h => h.1))
      replace BK107 := kk_ BK107 hk NB107_0
      replace BK110 := kk_ BK110 hk NB110_0
      replace HO121 := Aside0.mk (Kd.R_mono (Kd.R_keep (IsS79.apart (show IsS79 w0 _ g s0_0 t118 from ni79_38 HI0.out) HO121.out (by decide)) hk (fun _ h => h.2)) (fun _ h => h.1))
      replace HO126 := Aside0.mk (Kd.R_mono (Kd.R_keep (IsS79.apart (show IsS79 w0 _ g s0_0 t118 from ni79_38 HI0.out) HO126.out (by decide)) hk (fun _ h => h.2)) (fun _ h => h.1))
      replace HK := Aside0.mk (KeepBut.trans HK.out hk (.inl rfl))
      replace HB := Aside0.mk (hb)
      replace HI0 := Aside0.mk (hi)
      (try clear hb)
      (try clear hb2)
      (try clear hk)
      (try clear hi)
      refine hK.out _ _ ⟨ct_ BK110.out 0, ct_ BK110.out 1⟩ (fun hHeld => ?_)
      clear hK K
      refine nm1_ (some 28) ?_
      exact norm_ nn_ (hJ3_7_10_11_12_14 (.slice Ao30 y119.length co30, v125) _ ⟨hHeld, HO121.out, HO126.out, HO_111001.out, BK107.out, BK110.out, HI0.out, HK.out, HB.out⟩)
     ·skip
      refine bs_ 5 #[.int .i64 0, .int .i64 0, .int .i64 0, .int .i64 0, .int .i64 0] 54 ?_
      intro gb131 hg w30 hbox hb
      replace HO_111001 := Aside0.mk (rB38 (Kd.R_elderB HO_111001.out gb131 (Nat.le_of_eq hg.symm)) hb)
      replace HO121 := Aside0.mk (rB38 HO121.out hb)
      replace HO126 := Aside0.mk (rB38 HO126.out hb)
      replace HB := Aside0.mk (below_step HB.out hb)
      have BK131 := Aside0.mk (hbox)
      have GW131 := Aside0.mk ((by rw [hg]; exact (keep_size (w := w) (g := g) (row := none) HK.out) : w.heap.size ≤ gb131))
      have GE131 := Aside0.mk ((Nat.le_trans HW0.out (by rw [hg]; exact (keep_size (w := w) (g := g) (row := none) HK.out) : w.heap.size ≤ gb131) : w0.heap.size ≤ gb131))
      replace HK := Aside0.mk (KeepBut.trans HK.out (KeepBut.of_below hb g none) (.inl rfl))
      have NB107_131 := Aside0.mk (nl_ BK107.out hg)
      have NB131_107 := Aside0.mk (nm_ BK107.out hg)
      replace BK107 := kb_ BK107 hb
      have NB110_131 := Aside0.mk (nl_ BK110.out hg)
      have NB131_110 := Aside0.mk (nm_ BK110.out hg)
      replace BK110 := kb_ BK110 hb
      have NB0_131 := Aside0.mk ((by rw [hg]; exact Nat.ne_of_lt (IsS79.lt (show IsS79 w0 _ g s0_0 t118 from ni79_38 HI0.out)) : g ≠ gb131))
      have NB131_0 := Aside0.mk ((by rw [hg]; exact Nat.ne_of_gt (IsS79.lt (show IsS79 w0 _ g s0_0 t118 from ni79_38 HI0.out)) : gb131 ≠ g))
      replace HI0 := Aside0.mk (IsS79.below HI0.out hb)
      clear hb hbox hg
      refine hK.out _ _ ⟨ct_ BK110.out 0, ct_ BK110.out 1⟩ (fun hHeld => ?_)
      clear hK K
      refine nm1_ (some 5) ?_
      exact norm_ nn_ (hJ3_7_10_11_14_19 ((.slice Ao30 y119.length co30), v125, gb131) _ ⟨hHeld, HO121.out, HO126.out, (by (with_reducible repeat (first | apply rA38 | apply rN38 | apply Kd.R_drew)); exact Kd.R_mono HO_111001.out (fun _ hk => by first | exact hk.2 | trivial | simp_all)), BK107.out, BK110.out, BK131.out, GW131.out, GE131.out, NB0_131.out, NB131_0.out, NB107_131.out, NB131_107.out, NB110_131.out, NB131_110.out, HI0.out, HK.out, HB.out⟩)
    intro hJ3_7_10_11_14
    refine join_ (σ := Value × Nat) 6 z38_10 (fun s_ => [(19, .int .i64 t113), (23, .int .i64 t115), (26, .int .i64 t117), (27, s_.1), (5, .pointer (some ⟨s_.2, 0, none⟩))]) (fun s_ w' => (w'.cell? ⟨gb110, 0, none⟩ = some (.int .i64 (wrap64 (2 + t108))) ∧ w'.cell? ⟨gb110, 1, none⟩ = some (u111001)) ∧ (Kd.R (Kd.int .i64) 3 w' w.heap.size (fun _ => True) s_.1 y119) ∧ (Kd.R k54 54 w' w.heap.size (fun k_ => k_ ≠ s_.2) u111001 x111001_1) ∧ (w'.heap[gb107]? = some (.cells #[.int .i64 0, .slice none 0 0] 25 (0, 0))) ∧ (w'.heap[gb110]? = some (.cells #[.int .i64 (wrap64 (2 + t108)), u111001] 25 (0, 0))) ∧ (w'.heap[s_.2]? = some (.cells #[.int .i64 0, .int .i64 0, .int .i64 0, .int .i64 0, .int .i64 0] 54 (0, 0))) ∧ (w.heap.size ≤ s_.2) ∧ (w0.heap.size ≤ s_.2) ∧ (g ≠ s_.2) ∧ (s_.2 ≠ g) ∧ (gb107 ≠ s_.2) ∧ (s_.2 ≠ gb107) ∧ (gb110 ≠ s_.2) ∧ (s_.2 ≠ gb110) ∧ (IsS79 w0 w' g s0_0 t118) ∧ (KeepBut w w' g none) ∧ (Below w0.heap.size w0 w')) ?_ ?_
    ·skip
     rintro ⟨v120, gb131⟩ w28 ⟨hS_, h0_, h1_, h2_, h3_, h4_, h5_, h6_, h7_, h8_, h9_, h10_, h11_, h12_, h13_, h14_, h15_⟩
     have HO121 : Aside0 (Kd.R (Kd.int .i64) 3 w28 w.heap.size (fun _ => True) v120 y119) := ⟨h0_⟩
     replace HO_111001 : Aside0 (Kd.R k54 54 w28 w.heap.size (fun k_ => k_ ≠ gb131) u111001 x111001_1) := ⟨h1_⟩
     replace BK107 : Aside0 (w28.heap[gb107]? = some (.cells #[.int .i64 0, .slice none 0 0] 25 (0, 0))) := ⟨h2_⟩
     replace BK110 : Aside0 (w28.heap[gb110]? = some (.cells #[.int .i64 (wrap64 (2 + t108)), u111001] 25 (0, 0))) := ⟨h3_⟩
     have BK131 : Aside0 (w28.heap[gb131]? = some (.cells #[.int .i64 0, .int .i64 0, .int .i64 0, .int .i64 0, .int .i64 0] 54 (0, 0))) := ⟨h4_⟩
     have GW131 : Aside0 (w.heap.size ≤ gb131) := ⟨h5_⟩
     have GE131 : Aside0 (w0.heap.size ≤ gb131) := ⟨h6_⟩
     have NB0_131 : Aside0 (g ≠ gb131) := ⟨h7_⟩
     have NB131_0 : Aside0 (gb131 ≠ g) := ⟨h8_⟩
     have NB107_131 : Aside0 (gb107 ≠ gb131) := ⟨h9_⟩
     have NB131_107 : Aside0 (gb131 ≠ gb107) := ⟨h10_⟩
     have NB110_131 : Aside0 (gb110 ≠ gb131) := ⟨h11_⟩
     have NB131_110 : Aside0 (gb131 ≠ gb110) := ⟨h12_⟩
     replace HI0 : Aside0 (IsS79 w0 w28 g s0_0 t118) := ⟨h13_⟩
     replace HK : Aside0 (KeepBut w w28 g none) := ⟨h14_⟩
     replace HB : Aside0 (Below w0.heap.size w0 w28) := ⟨h15_⟩
     clear h0_ h1_ h2_ h3_ h4_ h5_ h6_ h7_ h8_ h9_ h10_ h11_ h12_ h13_ h14_ h15_
     have hHeld : w28.cell? ⟨gb110, 0, none⟩ = some (.int .i64 (wrap64 (2 + t108))) ∧ w28.cell? ⟨gb110, 1, none⟩ = some (u111001) := hS_
     obtain ⟨Ao29, co29, eo29⟩ := Kd.R_slice HO121.out
     (first | subst eo29 | (injection eo29 with f1_ f2_ f3_; have f4_ := f1_.symm; have f5_ := f3_.symm; clear f1_ f2_ f3_; subst f4_; subst f5_))
     refine nm2_ ?_
     refine two_ (i := 12) (j := 14) (Ni := some 28) (Nj := some 30) z38_6 z38_7 rfl rfl rfl rfl (two_of HT_.out (by kernel_rfl)) (by decide) (by decide) (fun K hK => ?_) (fun K hK => ?_)
     ·skip
      refine go_ Tryd.func48 #[.pointer (some ⟨g, 0, none⟩), .slice Ao29 y119.length co29] ?_
      with_reducible refine (spec_l30Rd_one.calls k1 g s0_0 t118 _ _ y119 t122 t123 w0 _ ?side1 ?side2 ?side3 ?side4 ?side5 A15.out).mono ?_
      (case side1 => exact HI0.out)
      (case side2 => exact HB.out)
      (case side3 => exact nc_ (Kd.R_reads' HO121.out).2.2)
      (case side4 => exact (Kd.R_reads' HO121.out).2.1)
      (case side5 => exact far_slice (IsS79.own_ne HI0.out HO121.out (by decide)))
      rintro e w30 ⟨rfl, hi, hb, hk⟩
      refine ⟨_, rfl, ?_⟩
      replace HO_111001 := Aside0.mk (Kd.R_mono (Kd.R_keep (IsS79.apart (show IsS79 w0 _ g s0_0 t118 from ni79_38 HI0.out) HO_111001.out (by decide)) hk (fun _ h => h.2)) (fun _ h => h.1))
      replace BK107 := kk_ BK107 hk NB107_0
      replace BK110 := kk_ BK110 hk NB110_0
      replace HO121 := Aside0.mk (Kd.R_mono (Kd.R_keep (IsS79.apart (show IsS79 w0 _ g s0_0 t118 from ni79_38 HI0.out) HO121.out (by decide)) hk (fun _ h => h.2)) (fun _ h => h.1))
      replace BK131 := kk_ BK131 hk NB131_0
      replace HK := Aside0.mk (KeepBut.trans HK.out hk (.inl rfl))
      replace HB := Aside0.mk (hb)
      replace HI0 := Aside0.mk (hi)
      (try clear hb)
      (try clear hb2)
      (try clear hk)
      (try clear hi)
      refine hK.out _ _ ⟨ct_ BK110.out 0, ct_ BK110.out 1⟩ (fun hHeld => ?_)
      clear hK K
      refine nm1_ (some 28) ?_
      exact norm_ nn_ (hJ3_7_10_11_12_19 (.slice Ao29 y119.length co29, gb131) _ ⟨hHeld, HO121.out, HO_111001.out, BK107.out, BK110.out, BK131.out, GW131.out, GE131.out, NB0_131.out, NB131_0.out, NB107_131.out, NB131_107.out, NB110_131.out, NB131_110.out, HI0.out, HK.out, HB.out⟩)
     ·skip
      refine ls_ 30 3 [0, 0, 3, 8] [.int .i64 0, .int .i64 0, .int .i64 3, .int .i64 8] ?_
      intro v125 w29 ho30 hb hg_ hnew_
      clear hg_ hnew_
      (first | rw [← Ny124.out] at ho30 | (simp only [Int.reduceToNat] at ho30; rw [← Ny124.out] at ho30))
      replace HO_111001 := Aside0.mk (rB38 HO_111001.out hb)
      have HO126 := Aside0.mk (Kd.R_lower (Kd.R_new' ho30 (Kd.R_lt HO121.out)) (keep_size (w := w) (g := g) (row := none) HK.out))
      replace HO121 := Aside0.mk (Kd.R_elder' HO121.out (Kd.R_base ho30) hb)
      replace BK107 := kb_ BK107 hb
      replace BK110 := kb_ BK110 hb
      replace HI0 := Aside0.mk (IsS79.below HI0.out hb)
      replace BK131 := kb_ BK131 hb
      replace HK := Aside0.mk (KeepBut.trans HK.out (KeepBut.of_below hb g none) (.inl rfl))
      replace HB := Aside0.mk (below_step HB.out hb)
      clear hb ho30
      refine hK.out _ _ ⟨ct_ BK110.out 0, ct_ BK110.out 1⟩ (fun hHeld => ?_)
      clear hK K
      refine nm1_ (some 30) ?_
      exact norm_ nn_ (hJ3_7_10_11_14_19 ((.slice Ao29 y119.length co29), v125, gb131) _ ⟨hHeld, (by (with_reducible repeat (first | apply rA38 | apply rN38 | apply Kd.R_drew)); exact Kd.R_mono HO121.out (fun _ hk => by first | exact hk.2 | trivial | simp_all)), (by (with_reducible repeat (first | apply rA38 | apply rN38 | apply Kd.R_drew)); exact Kd.R_mono HO126.out (fun _ hk => by first | exact hk.2 | trivial | simp_all)), HO_111001.out, BK107.out, BK110.out, BK131.out, GW131.out, GE131.out, NB0_131.out, NB131_0.out, NB107_131.out, NB131_107.out, NB110_131.out, NB131_110.out, HI0.out, HK.out, HB.out⟩)
    intro hJ3_7_10_11_19
    refine join_ (σ := Value × Nat) 6 z38_11 (fun s_ => [(19, .int .i64 t113), (23, .int .i64 t115), (26, .int .i64 t117), (30, s_.1), (5, .pointer (some ⟨s_.2, 0, none⟩))]) (fun s_ w' => (w'.cell? ⟨gb110, 0, none⟩ = some (.int .i64 (wrap64 (2 + t108))) ∧ w'.cell? ⟨gb110, 1, none⟩ = some (u111001)) ∧ (Kd.R (Kd.int .i64) 3 w' w.heap.size (fun _ => True) s_.1 y124) ∧ (Kd.R k54 54 w' w.heap.size (fun k_ => k_ ≠ s_.2) u111001 x111001_1) ∧ (w'.heap[gb107]? = some (.cells #[.int .i64 0, .slice none 0 0] 25 (0, 0))) ∧ (w'.heap[gb110]? = some (.cells #[.int .i64 (wrap64 (2 + t108)), u111001] 25 (0, 0))) ∧ (w'.heap[s_.2]? = some (.cells #[.int .i64 0, .int .i64 0, .int .i64 0, .int .i64 0, .int .i64 0] 54 (0, 0))) ∧ (w.heap.size ≤ s_.2) ∧ (w0.heap.size ≤ s_.2) ∧ (g ≠ s_.2) ∧ (s_.2 ≠ g) ∧ (gb107 ≠ s_.2) ∧ (s_.2 ≠ gb107) ∧ (gb110 ≠ s_.2) ∧ (s_.2 ≠ gb110) ∧ (IsS79 w0 w' g s0_0 t118) ∧ (KeepBut w w' g none) ∧ (Below w0.heap.size w0 w')) ?_ ?_
    ·skip
     rintro ⟨v125, gb131⟩ w28 ⟨hS_, h0_, h1_, h2_, h3_, h4_, h5_, h6_, h7_, h8_, h9_, h10_, h11_, h12_, h13_, h14_, h15_⟩
     have HO126 : Aside0 (Kd.R (Kd.int .i64) 3 w28 w.heap.size (fun _ => True) v125 y124) := ⟨h0_⟩
     replace HO_111001 : Aside0 (Kd.R k54 54 w28 w.heap.size (fun k_ => k_ ≠ gb131) u111001 x111001_1) := ⟨h1_⟩
     replace BK107 : Aside0 (w28.heap[gb107]? = some (.cells #[.int .i64 0, .slice none 0 0] 25 (0, 0))) := ⟨h2_⟩
     replace BK110 : Aside0 (w28.heap[gb110]? = some (.cells #[.int .i64 (wrap64 (2 + t108)), u111001] 25 (0, 0))) := ⟨h3_⟩
     have BK131 : Aside0 (w28.heap[gb131]? = some (.cells #[.int .i64 0, .int .i64 0, .int .i64 0, .int .i64 0, .int .i64 0] 54 (0, 0))) := ⟨h4_⟩
     have GW131 : Aside0 (w.heap.size ≤ gb131) := ⟨h5_⟩
     have GE131 : Aside0 (w0.heap.size ≤ gb131) := ⟨h6_⟩
     have NB0_131 : Aside0 (g ≠ gb131) := ⟨h7_⟩
     have NB131_0 : Aside0 (gb131 ≠ g) := ⟨h8_⟩
     have NB107_131 : Aside0 (gb107 ≠ gb131) := ⟨h9_⟩
     have NB131_107 : Aside0 (gb131 ≠ gb107) := ⟨h10_⟩
     have NB110_131 : Aside0 (gb110 ≠ gb131) := ⟨h11_⟩
     have NB131_110 : Aside0 (gb131 ≠ gb110) := ⟨h12_⟩
     replace HI0 : Aside0 (IsS79 w0 w28 g s0_0 t118) := ⟨h13_⟩
     replace HK : Aside0 (KeepBut w w28 g none) := ⟨h14_⟩
     replace HB : Aside0 (Below w0.heap.size w0 w28) := ⟨h15_⟩
     clear h0_ h1_ h2_ h3_ h4_ h5_ h6_ h7_ h8_ h9_ h10_ h11_ h12_ h13_ h14_ h15_
     have hHeld : w28.cell? ⟨gb110, 0, none⟩ = some (.int .i64 (wrap64 (2 + t108))) ∧ w28.cell? ⟨gb110, 1, none⟩ = some (u111001) := hS_
     refine nm2_ ?_
     refine one_ (i := 11) (N := some 27) z38_7 rfl rfl (one_of HT_.out (by kernel_rfl)) (by decide) (fun K hK => ?_)
     refine ls_ 27 3 [0, 1, 2, 5, 9, t117] [.int .i64 0, .int .i64 1, .int .i64 2, .int .i64 5, .int .i64 9, .int .i64 t117] ?_
     intro v120 w29 ho30 hb hg_ hnew_
     clear hg_ hnew_
     (first | rw [← Ny119.out] at ho30 | (simp only [Int.reduceToNat] at ho30; rw [← Ny119.out] at ho30))
     replace HO_111001 := Aside0.mk (rB38 HO_111001.out hb)
     have HO121 := Aside0.mk (Kd.R_lower (Kd.R_new' ho30 (Kd.R_lt HO126.out)) (keep_size (w := w) (g := g) (row := none) HK.out))
     replace HO126 := Aside0.mk (Kd.R_elder' HO126.out (Kd.R_base ho30) hb)
     replace BK107 := kb_ BK107 hb
     replace BK110 := kb_ BK110 hb
     replace HI0 := Aside0.mk (IsS79.below HI0.out hb)
     replace BK131 := kb_ BK131 hb
     replace HK := Aside0.mk (KeepBut.trans HK.out (KeepBut.of_below hb g none) (.inl rfl))
     replace HB := Aside0.mk (below_step HB.out hb)
     clear hb ho30
     refine hK.out _ _ ⟨ct_ BK110.out 0, ct_ BK110.out 1⟩ (fun hHeld => ?_)
     clear hK K
     refine nm1_ (some 27) ?_
     exact norm_ nn_ (hJ3_7_10_11_14_19 (v120, v125, gb131) _ ⟨hHeld, (by (with_reducible repeat (first | apply rA38 | apply rN38 | apply Kd.R_drew)); exact Kd.R_mono HO121.out (fun _ hk => by first | exact hk.2 | trivial | simp_all)), (by (with_reducible repeat (first | apply rA38 | apply rN38 | apply Kd.R_drew)); exact Kd.R_mono HO126.out (fun _ hk => by first | exact hk.2 | trivial | simp_all)), HO_111001.out, BK107.out, BK110.out, BK131.out, GW131.out, GE131.out, NB0_131.out, NB131_0.out, NB107_131.out, NB131_107.out, NB110_131.out, NB131_110.out, HI0.out, HK.out, HB.out⟩)
    intro hJ3_7_10_14_19
    refine join_ (σ := Value) 7 z38_12 (fun s_ => [(19, .int .i64 t113), (23, .int .i64 t115), (26, .int .i64 t117), (27, s_)]) (fun s_ w' => (w'.cell? ⟨gb110, 0, none⟩ = some (.int .i64 (wrap64 (2 + t108))) ∧ w'.cell? ⟨gb110, 1, none⟩ = some (u111001)) ∧ (Kd.R (Kd.int .i64) 3 w' w.heap.size (fun _ => True) s_ y119) ∧ (Kd.R k54 54 w' w.heap.size (fun _ => True) u111001 x111001_1) ∧ (w'.heap[gb107]? = some (.cells #[.int .i64 0, .slice none 0 0] 25 (0, 0))) ∧ (w'.heap[gb110]? = some (.cells #[.int .i64 (wrap64 (2 + t108)), u111001] 25 (0, 0))) ∧ (IsS79 w0 w' g s0_0 t118) ∧ (KeepBut w w' g none) ∧ (Below w0.heap.size w0 w')) ?_ ?_
    ·skip
     rintro v120 w27 ⟨hS_, h0_, h1_, h2_, h3_, h4_, h5_, h6_⟩
     have HO121 : Aside0 (Kd.R (Kd.int .i64) 3 w27 w.heap.size (fun _ => True) v120 y119) := ⟨h0_⟩
     replace HO_111001 : Aside0 (Kd.R k54 54 w27 w.heap.size (fun _ => True) u111001 x111001_1) := ⟨h1_⟩
     replace BK107 : Aside0 (w27.heap[gb107]? = some (.cells #[.int .i64 0, .slice none 0 0] 25 (0, 0))) := ⟨h2_⟩
     replace BK110 : Aside0 (w27.heap[gb110]? = some (.cells #[.int .i64 (wrap64 (2 + t108)), u111001] 25 (0, 0))) := ⟨h3_⟩
     replace HI0 : Aside0 (IsS79 w0 w27 g s0_0 t118) := ⟨h4_⟩
     replace HK : Aside0 (KeepBut w w27 g none) := ⟨h5_⟩
     replace HB : Aside0 (Below w0.heap.size w0 w27) := ⟨h6_⟩
     clear h0_ h1_ h2_ h3_ h4_ h5_ h6_
     have hHeld : w27.cell? ⟨gb110, 0, none⟩ = some (.int .i64 (wrap64 (2 + t108))) ∧ w27.cell? ⟨gb110, 1, none⟩ = some (u111001) := hS_
     obtain ⟨Ao28, co28, eo28⟩ := Kd.R_slice HO121.out
     (first | subst eo28 | (injection eo28 with f1_ f2_ f3_; have f4_ := f1_.symm; have f5_ := f3_.symm; clear f1_ f2_ f3_; subst f4_; subst f5_))
     refine nm2_ ?_
     refine three_ (i := 12) (j := 14) (k := 19) (Ni := some 28) (Nj := some 30) (Nk := some 5) z38_8 z38_9 z38_10 rfl rfl rfl rfl rfl rfl (three_of HT_.out (by kernel_rfl)) (by decide) (by decide) (by decide) (fun K hK => ?_) (fun K hK => ?_) (fun K hK => ?_)
     ·skip
      refine go_ Tryd.func48 #[.pointer (some ⟨g, 0, none⟩), .slice Ao28 y119.length co28] ?_
      with_reducible refine (spec_l30Rd_one.calls k1 g s0_0 t118 _ _ y119 t122 t123 w0 _ ?side1 ?side2 ?side3 ?side4 ?side5 A15.out).mono ?_
      (case side1 => exact HI0.out)
      (case side2 => exact HB.out)
      (case side3 => exact nc_ (Kd.R_reads' HO121.out).2.2)
      (case side4 => exact (Kd.R_reads' HO121.out).2.1)
      (case side5 => exact far_slice (IsS79.own_ne HI0.out HO121.out (by decide)))
      rintro e w29 ⟨rfl, hi, hb, hk⟩
      refine ⟨_, rfl, ?_⟩
      replace HO_111001 := Aside0.mk (Kd.R_mono (Kd.R_keep (IsS79.apart (show IsS79 w0 _ g s0_0 t118 from ni79_38 HI0.out) HO_111001.out (by decide)) hk (fun _ h => h.2)) (fun _ h => h.1))
      replace BK107 := kk_ BK107 hk NB107_0
      replace BK110 := kk_ BK110 hk NB110_0
      replace HO121 := Aside0.mk (Kd.R_mono (Kd.R_keep (IsS79.apart (show IsS79 w0 _ g s0_0 t118 from ni79_38 HI0.out) HO121.out (by decide)) hk (fun _ h => h.2)) (fun _ h => h.1))
      replace HK := Aside0.mk (KeepBut.trans HK.out hk (.inl rfl))
      replace HB := Aside0.mk (hb)
      replace HI0 := Aside0.mk (hi)
      (try clear hb)
      (try clear hb2)
      (try clear hk)
      (try clear hi)
      refine hK.out _ _ ⟨ct_ BK110.out 0, ct_ BK110.out 1⟩ (fun hHeld => ?_)
      clear hK K
      refine nm1_ (some 28) ?_
      exact norm_ nn_ (hJ3_7_10_11_12 (.slice Ao28 y119.length co28) _ ⟨hHeld, HO121.out, HO_111001.out, BK107.out, BK110.out, HI0.out, HK.out, HB.out⟩)
     ·skip
      refine ls_ 30 3 [0, 0, 3, 8] [.int .i64 0, .int .i64 0, .int .i64 3, .int .i64 8] ?_
      intro v125 w28 ho29 hb hg_ hnew_
      clear hg_ hnew_
      (first | rw [← Ny124.out] at ho29 | (simp only [Int.reduceToNat] at ho29; rw [← Ny124.out] at ho29))
      replace HO_111001 := Aside0.mk (rB38 HO_111001.out hb)
      have HO126 := Aside0.mk (Kd.R_lower (Kd.R_new' ho29 (Kd.R_lt HO121.out)) (keep_size (w := w) (g := g) (row := none) HK.out))
      replace HO121 := Aside0.mk (Kd.R_elder' HO121.out (Kd.R_base ho29) hb)
      replace BK107 := kb_ BK107 hb
      replace BK110 := kb_ BK110 hb
      replace HI0 := Aside0.mk (IsS79.below HI0.out hb)
      replace HK := Aside0.mk (KeepBut.trans HK.out (KeepBut.of_below hb g none) (.inl rfl))
      replace HB := Aside0.mk (below_step HB.out hb)
      clear hb ho29
      refine hK.out _ _ ⟨ct_ BK110.out 0, ct_ BK110.out 1⟩ (fun hHeld => ?_)
      clear hK K
      refine nm1_ (some 30) ?_
      exact norm_ nn_ (hJ3_7_10_11_14 ((.slice Ao28 y119.length co28), v125) _ ⟨hHeld, (by (with_reducible repeat (first | apply rA38 | apply rN38 | apply Kd.R_drew)); exact Kd.R_mono HO121.out (fun _ hk => by first | exact hk.2 | trivial | simp_all)), (by (with_reducible repeat (first | apply rA38 | apply rN38 | apply Kd.R_drew)); exact Kd.R_mono HO126.out (fun _ hk => by first | exact hk.2 | trivial | simp_all)), HO_111001.out, BK107.out, BK110.out, HI0.out, HK.out, HB.out⟩)
     ·skip
      refine bs_ 5 #[.int .i64 0, .int .i64 0, .int .i64 0, .int .i64 0, .int .i64 0] 54 ?_
      intro gb131 hg w28 hbox hb
      replace HO_111001 := Aside0.mk (rB38 (Kd.R_elderB HO_111001.out gb131 (Nat.le_of_eq hg.symm)) hb)
      replace HO121 := Aside0.mk (rB38 HO121.out hb)
      replace HB := Aside0.mk (below_step HB.out hb)
      have BK131 := Aside0.mk (hbox)
      have GW131 := Aside0.mk ((by rw [hg]; exact (keep_size (w := w) (g := g) (row := none) HK.out) : w.heap.size ≤ gb131))
      have GE131 := Aside0.mk ((Nat.le_trans HW0.out (by rw [hg]; exact (keep_size (w := w) (g := g) (row := none) HK.out) : w.heap.size ≤ gb131) : w0.heap.size ≤ gb131))
      replace HK := Aside0.mk (KeepBut.trans HK.out (KeepBut.of_below hb g none) (.inl rfl))
      have NB107_131 := Aside0.mk (nl_ BK107.out hg)
      have NB131_107 := Aside0.mk (nm_ BK107.out hg)
      replace BK107 := kb_ BK107 hb
      have NB110_131 := Aside0.mk (nl_ BK110.out hg)
      have NB131_110 := Aside0.mk (nm_ BK110.out hg)
      replace BK110 := kb_ BK110 hb
      have NB0_131 := Aside0.mk ((by rw [hg]; exact Nat.ne_of_lt (IsS79.lt (show IsS79 w0 _ g s0_0 t118 from ni79_38 HI0.out)) : g ≠ gb131))
      have NB131_0 := Aside0.mk ((by rw [hg]; exact Nat.ne_of_gt (IsS79.lt (show IsS79 w0 _ g s0_0 t118 from ni79_38 HI0.out)) : gb131 ≠ g))
      replace HI0 := Aside0.mk (IsS79.below HI0.out hb)
      clear hb hbox hg
      refine hK.out _ _ ⟨ct_ BK110.out 0, ct_ BK110.out 1⟩ (fun hHeld => ?_)
      clear hK K
      refine nm1_ (some 5) ?_
      exact norm_ nn_ (hJ3_7_10_11_19 ((.slice Ao28 y119.length co28), gb131) _ ⟨hHeld, HO121.out, (by (with_reducible repeat (first | apply rA38 | apply rN38 | apply Kd.R_drew)); exact Kd.R_mono HO_111001.out (fun _ hk => by first | exact hk.2 | trivial | simp_all)), BK107.out, BK110.out, BK131.out, GW131.out, GE131.out, NB0_131.out, NB131_0.out, NB107_131.out, NB131_107.out, NB110_131.out, NB131_110.out, HI0.out, HK.out, HB.out⟩)
    intro hJ3_7_10_11
    refine join_ (σ := Value) 7 z38_13 (fun s_ => [(19, .int .i64 t113), (23, .int .i64 t115), (26, .int .i64 t117), (30, s_)]) (fun s_ w' => (w'.cell? ⟨gb110, 0, none⟩ = some (.int .i64 (wrap64 (2 + t108))) ∧ w'.cell? ⟨gb110, 1, none⟩ = some (u111001)) ∧ (Kd.R (Kd.int .i64) 3 w' w.heap.size (fun _ => True) s_ y124) ∧ (Kd.R k54 54 w' w.heap.size (fun _ => True) u111001 x111001_1) ∧ (w'.heap[gb107]? = some (.cells #[.int .i64 0, .slice none 0 0] 25 (0, 0))) ∧ (w'.heap[gb110]? = some (.cells #[.int .i64 (wrap64 (2 + t108)), u111001] 25 (0, 0))) ∧ (IsS79 w0 w' g s0_0 t118) ∧ (KeepBut w w' g none) ∧ (Below w0.heap.size w0 w')) ?_ ?_
    ·skip
     rintro v125 w27 ⟨hS_, h0_, h1_, h2_, h3_, h4_, h5_, h6_⟩
     have HO126 : Aside0 (Kd.R (Kd.int .i64) 3 w27 w.heap.size (fun _ => True) v125 y124) := ⟨h0_⟩
     replace HO_111001 : Aside0 (Kd.R k54 54 w27 w.heap.size (fun _ => True) u111001 x111001_1) := ⟨h1_⟩
     replace BK107 : Aside0 (w27.heap[gb107]? = some (.cells #[.int .i64 0, .slice none 0 0] 25 (0, 0))) := ⟨h2_⟩
     replace BK110 : Aside0 (w27.heap[gb110]? = some (.cells #[.int .i64 (wrap64 (2 + t108)), u111001] 25 (0, 0))) := ⟨h3_⟩
     replace HI0 : Aside0 (IsS79 w0 w27 g s0_0 t118) := ⟨h4_⟩
     replace HK : Aside0 (KeepBut w w27 g none) := ⟨h5_⟩
     replace HB : Aside0 (Below w0.heap.size w0 w27) := ⟨h6_⟩
     clear h0_ h1_ h2_ h3_ h4_ h5_ h6_
     have hHeld : w27.cell? ⟨gb110, 0, none⟩ = some (.int .i64 (wrap64 (2 + t108))) ∧ w27.cell? ⟨gb110, 1, none⟩ = some (u111001) := hS_
     refine nm2_ ?_
     refine two_ (i := 11) (j := 19) (Ni := some 27) (Nj := some 5) z38_9 z38_11 rfl rfl rfl rfl (two_of HT_.out (by kernel_rfl)) (by decide) (by decide) (fun K hK => ?_) (fun K hK => ?_)
     ·skip
      refine ls_ 27 3 [0, 1, 2, 5, 9, t117] [.int .i64 0, .int .i64 1, .int .i64 2, .int .i64 5, .int .i64 9, .int .i64 t117] ?_
      intro v120 w28 ho29 hb hg_ hnew_
      clear hg_ hnew_
      (first | rw [← Ny119.out] at ho29 | (simp only [Int.reduceToNat] at ho29; rw [← Ny119.out] at ho29))
      replace HO_111001 := Aside0.mk (rB38 HO_111001.out hb)
      have HO121 := Aside0.mk (Kd.R_lower (Kd.R_new' ho29 (Kd.R_lt HO126.out)) (keep_size (w := w) (g := g) (row := none) HK.out))
      replace HO126 := Aside0.mk (Kd.R_elder' HO126.out (Kd.R_base ho29) hb)
      replace BK107 := kb_ BK107 hb
      replace BK110 := kb_ BK110 hb
      replace HI0 := Aside0.mk (IsS79.below HI0.out hb)
      replace HK := Aside0.mk (KeepBut.trans HK.out (KeepBut.of_below hb g none) (.inl rfl))
      replace HB := Aside0.mk (below_step HB.out hb)
      clear hb ho29
      refine hK.out _ _ ⟨ct_ BK110.out 0, ct_ BK110.out 1⟩ (fun hHeld => ?_)
      clear hK K
      refine nm1_ (some 27) ?_
      exact norm_ nn_ (hJ3_7_10_11_14 (v120, v125) _ ⟨hHeld, (by (with_reducible repeat (first | apply rA38 | apply rN38 | apply Kd.R_drew)); exact Kd.R_mono HO121.out (fun _ hk => by first | exact hk.2 | trivial | simp_all)), (by (with_reducible repeat (first | apply rA38 | apply rN38 | apply Kd.R_drew)); exact Kd.R_mono HO126.out (fun _ hk => by first | exact hk.2 | trivial | simp_all)), HO_111001.out, BK107.out, BK110.out, HI0.out, HK.out, HB.out⟩)
     ·skip
      refine bs_ 5 #[.int .i64 0, .int .i64 0, .int .i64 0, .int .i64 0, .int .i64 0] 54 ?_
      intro gb131 hg w28 hbox hb
      replace HO_111001 := Aside0.mk (rB38 (Kd.R_elderB HO_111001.out gb131 (Nat.le_of_eq hg.symm)) hb)
      replace HO126 := Aside0.mk (rB38 HO126.out hb)
      replace HB := Aside0.mk (below_step HB.out hb)
      have BK131 := Aside0.mk (hbox)
      have GW131 := Aside0.mk ((by rw [hg]; exact (keep_size (w := w) (g := g) (row := none) HK.out) : w.heap.size ≤ gb131))
      have GE131 := Aside0.mk ((Nat.le_trans HW0.out (by rw [hg]; exact (keep_size (w := w) (g := g) (row := none) HK.out) : w.heap.size ≤ gb131) : w0.heap.size ≤ gb131))
      replace HK := Aside0.mk (KeepBut.trans HK.out (KeepBut.of_below hb g none) (.inl rfl))
      have NB107_131 := Aside0.mk (nl_ BK107.out hg)
      have NB131_107 := Aside0.mk (nm_ BK107.out hg)
      replace BK107 := kb_ BK107 hb
      have NB110_131 := Aside0.mk (nl_ BK110.out hg)
      have NB131_110 := Aside0.mk (nm_ BK110.out hg)
      replace BK110 := kb_ BK110 hb
      have NB0_131 := Aside0.mk ((by rw [hg]; exact Nat.ne_of_lt (IsS79.lt (show IsS79 w0 _ g s0_0 t118 from ni79_38 HI0.out)) : g ≠ gb131))
      have NB131_0 := Aside0.mk ((by rw [hg]; exact Nat.ne_of_gt (IsS79.lt (show IsS79 w0 _ g s0_0 t118 from ni79_38 HI0.out)) : gb131 ≠ g))
      replace HI0 := Aside0.mk (IsS79.below HI0.out hb)
      clear hb hbox hg
      refine hK.out _ _ ⟨ct_ BK110.out 0, ct_ BK110.out 1⟩ (fun hHeld => ?_)
      clear hK K
      refine nm1_ (some 5) ?_
      exact norm_ nn_ (hJ3_7_10_14_19 (v125, gb131) _ ⟨hHeld, HO126.out, (by (with_reducible repeat (first | apply rA38 | apply rN38 | apply Kd.R_drew)); exact Kd.R_mono HO_111001.out (fun _ hk => by first | exact hk.2 | trivial | simp_all)), BK107.out, BK110.out, BK131.out, GW131.out, GE131.out, NB0_131.out, NB131_0.out, NB107_131.out, NB131_107.out, NB110_131.out, NB131_110.out, HI0.out, HK.out, HB.out⟩)
    intro hJ3_7_10_14
    refine join_ (σ := Nat) 7 z38_14 (fun s_ => [(19, .int .i64 t113), (23, .int .i64 t115), (26, .int .i64 t117), (5, .pointer (some ⟨s_, 0, none⟩))]) (fun s_ w' => (w'.cell? ⟨gb110, 0, none⟩ = some (.int .i64 (wrap64 (2 + t108))) ∧ w'.cell? ⟨gb110, 1, none⟩ = some (u111001)) ∧ (Kd.R k54 54 w' w.heap.size (fun k_ => k_ ≠ s_) u111001 x111001_1) ∧ (w'.heap[gb107]? = some (.cells #[.int .i64 0, .slice none 0 0] 25 (0, 0))) ∧ (w'.heap[gb110]? = some (.cells #[.int .i64 (wrap64 (2 + t108)), u111001] 25 (0, 0))) ∧ (w'.heap[s_]? = some (.cells #[.int .i64 0, .int .i64 0, .int .i64 0, .int .i64 0, .int .i64 0] 54 (0, 0))) ∧ (w.heap.size ≤ s_) ∧ (w0.heap.size ≤ s_) ∧ (g ≠ s_) ∧ (s_ ≠ g) ∧ (gb107 ≠ s_) ∧ (s_ ≠ gb107) ∧ (gb110 ≠ s_) ∧ (s_ ≠ gb110) ∧ (IsS79 w0 w' g s0_0 t118) ∧ (KeepBut w w' g none) ∧ (Below w0.heap.size w0 w')) ?_ ?_
    ·skip
     rintro gb131 w26 ⟨hS_, h0_, h1_, h2_, h3_, h4_, h5_, h6_, h7_, h8_, h9_, h10_, h11_, h12_, h13_, h14_⟩
     replace HO_111001 : Aside0 (Kd.R k54 54 w26 w.heap.size (fun k_ => k_ ≠ gb131) u111001 x111001_1) := ⟨h0_⟩
     replace BK107 : Aside0 (w26.heap[gb107]? = some (.cells #[.int .i64 0, .slice none 0 0] 25 (0, 0))) := ⟨h1_⟩
     replace BK110 : Aside0 (w26.heap[gb110]? = some (.cells #[.int .i64 (wrap64 (2 + t108)), u111001] 25 (0, 0))) := ⟨h2_⟩
     have BK131 : Aside0 (w26.heap[gb131]? = some (.cells #[.int .i64 0, .int .i64 0, .int .i64 0, .int .i64 0, .int .i64 0] 54 (0, 0))) := ⟨h3_⟩
     have GW131 : Aside0 (w.heap.size ≤ gb131) := ⟨h4_⟩
     have GE131 : Aside0 (w0.heap.size ≤ gb131) := ⟨h5_⟩
     have NB0_131 : Aside0 (g ≠ gb131) := ⟨h6_⟩
     have NB131_0 : Aside0 (gb131 ≠ g) := ⟨h7_⟩
     have NB107_131 : Aside0 (gb107 ≠ gb131) := ⟨h8_⟩
     have NB131_107 : Aside0 (gb131 ≠ gb107) := ⟨h9_⟩
     have NB110_131 : Aside0 (gb110 ≠ gb131) := ⟨h10_⟩
     have NB131_110 : Aside0 (gb131 ≠ gb110) := ⟨h11_⟩
     replace HI0 : Aside0 (IsS79 w0 w26 g s0_0 t118) := ⟨h12_⟩
     replace HK : Aside0 (KeepBut w w26 g none) := ⟨h13_⟩
     replace HB : Aside0 (Below w0.heap.size w0 w26) := ⟨h14_⟩
     clear h0_ h1_ h2_ h3_ h4_ h5_ h6_ h7_ h8_ h9_ h10_ h11_ h12_ h13_ h14_
     have hHeld : w26.cell? ⟨gb110, 0, none⟩ = some (.int .i64 (wrap64 (2 + t108))) ∧ w26.cell? ⟨gb110, 1, none⟩ = some (u111001) := hS_
     refine nm2_ ?_
     refine two_ (i := 11) (j := 14) (Ni := some 27) (Nj := some 30) z38_10 z38_11 rfl rfl rfl rfl (two_of HT_.out (by kernel_rfl)) (by decide) (by decide) (fun K hK => ?_) (fun K hK => ?_)
     ·skip
      refine ls_ 27 3 [0, 1, 2, 5, 9, t117] [.int .i64 0, .int .i64 1, .int .i64 2, .int .i64 5, .int .i64 9, .int .i64 t117] ?_
      intro v120 w27 ho28 hb hg_ hnew_
      clear hg_ hnew_
      (first | rw [← Ny119.out] at ho28 | (simp only [Int.reduceToNat] at ho28; rw [← Ny119.out] at ho28))
      replace HO_111001 := Aside0.mk (rB38 HO_111001.out hb)
      have HO121 := Aside0.mk (Kd.R_lower ho28 (keep_size (w := w) (g := g) (row := none) HK.out))
      replace BK107 := kb_ BK107 hb
      replace BK110 := kb_ BK110 hb
      replace HI0 := Aside0.mk (IsS79.below HI0.out hb)
      replace BK131 := kb_ BK131 hb
      replace HK := Aside0.mk (KeepBut.trans HK.out (KeepBut.of_below hb g none) (.inl rfl))
      replace HB := Aside0.mk (below_step HB.out hb)
      clear hb ho28
      refine hK.out _ _ ⟨ct_ BK110.out 0, ct_ BK110.out 1⟩ (fun hHeld => ?_)
      clear hK K
      refine nm1_ (some 27) ?_
      exact norm_ nn_ (hJ3_7_10_11_19 (v120, gb131) _ ⟨hHeld, HO121.out, HO_111001.out, BK107.out, BK110.out, BK131.out, GW131.out, GE131.out, NB0_131.out, NB131_0.out, NB107_131.out, NB131_107.out, NB110_131.out, NB131_110.out, HI0.out, HK.out, HB.out⟩)
     ·skip
      refine ls_ 30 3 [0, 0, 3, 8] [.int .i64 0, .int .i64 0, .int .i64 3, .int .i64 8] ?_
      intro v125 w27 ho28 hb hg_ hnew_
      clear hg_ hnew_
      (first | rw [← Ny124.out] at ho28 | (simp only [Int.reduceToNat] at ho28; rw [← Ny124.out] at ho28))
      replace HO_111001 := Aside0.mk (rB38 HO_111001.out hb)
      have HO126 := Aside0.mk (Kd.R_lower ho28 (keep_size (w := w) (g := g) (row := none) HK.out))
      replace BK107 := kb_ BK107 hb
      replace BK110 := kb_ BK110 hb
      replace HI0 := Aside0.mk (IsS79.below HI0.out hb)
      replace BK131 := kb_ BK131 hb
      replace HK := Aside0.mk (KeepBut.trans HK.out (KeepBut.of_below hb g none) (.inl rfl))
      replace HB := Aside0.mk (below_step HB.out hb)
      clear hb ho28
      refine hK.out _ _ ⟨ct_ BK110.out 0, ct_ BK110.out 1⟩ (fun hHeld => ?_)
      clear hK K
      refine nm1_ (some 30) ?_
      exact norm_ nn_ (hJ3_7_10_14_19 (v125, gb131) _ ⟨hHeld, HO126.out, HO_111001.out, BK107.out, BK110.out, BK131.out, GW131.out, GE131.out, NB0_131.out, NB131_0.out, NB107_131.out, NB131_107.out, NB110_131.out, NB131_110.out, HI0.out, HK.out, HB.out⟩)
    intro hJ3_7_10_19
    refine join_ (σ := Value × Nat) 7 z38_15 (fun s_ => [(19, .int .i64 t113), (23, .int .i64 t115), (30, s_.1), (5, .pointer (some ⟨s_.2, 0, none⟩))]) (fun s_ w' => (w'.cell? ⟨gb110, 0, none⟩ = some (.int .i64 (wrap64 (2 + t108))) ∧ w'.cell? ⟨gb110, 1, none⟩ = some (u111001)) ∧ (Kd.R (Kd.int .i64) 3 w' w.heap.size (fun _ => True) s_.1 y124) ∧ (Kd.R k54 54 w' w.heap.size (fun k_ => k_ ≠ s_.2) u111001 x111001_1) ∧ (w'.heap[gb107]? = some (.cells #[.int .i64 0, .slice none 0 0] 25 (0, 0))) ∧ (w'.heap[gb110]? = some (.cells #[.int .i64 (wrap64 (2 + t108)), u111001] 25 (0, 0))) ∧ (w'.heap[s_.2]? = some (.cells #[.int .i64 0, .int .i64 0, .int .i64 0, .int .i64 0, .int .i64 0] 54 (0, 0))) ∧ (w.heap.size ≤ s_.2) ∧ (w0.heap.size ≤ s_.2) ∧ (g ≠ s_.2) ∧ (s_.2 ≠ g) ∧ (gb107 ≠ s_.2) ∧ (s_.2 ≠ gb107) ∧ (gb110 ≠ s_.2) ∧ (s_.2 ≠ gb110) ∧ (IsS79 w0 w' g s0_0 t116) ∧ (KeepBut w w' g none) ∧ (Below w0.heap.size w0 w')) ?_ ?_
    ·skip
     rintro ⟨v125, gb131⟩ w27 ⟨hS_, h0_, h1_, h2_, h3_, h4_, h5_, h6_, h7_, h8_, h9_, h10_, h11_, h12_, h13_, h14_, h15_⟩
     have HO126 : Aside0 (Kd.R (Kd.int .i64) 3 w27 w.heap.size (fun _ => True) v125 y124) := ⟨h0_⟩
     replace HO_111001 : Aside0 (Kd.R k54 54 w27 w.heap.size (fun k_ => k_ ≠ gb131) u111001 x111001_1) := ⟨h1_⟩
     replace BK107 : Aside0 (w27.heap[gb107]? = some (.cells #[.int .i64 0, .slice none 0 0] 25 (0, 0))) := ⟨h2_⟩
     replace BK110 : Aside0 (w27.heap[gb110]? = some (.cells #[.int .i64 (wrap64 (2 + t108)), u111001] 25 (0, 0))) := ⟨h3_⟩
     have BK131 : Aside0 (w27.heap[gb131]? = some (.cells #[.int .i64 0, .int .i64 0, .int .i64 0, .int .i64 0, .int .i64 0] 54 (0, 0))) := ⟨h4_⟩
     have GW131 : Aside0 (w.heap.size ≤ gb131) := ⟨h5_⟩
     have GE131 : Aside0 (w0.heap.size ≤ gb131) := ⟨h6_⟩
     have NB0_131 : Aside0 (g ≠ gb131) := ⟨h7_⟩
     have NB131_0 : Aside0 (gb131 ≠ g) := ⟨h8_⟩
     have NB107_131 : Aside0 (gb107 ≠ gb131) := ⟨h9_⟩
     have NB131_107 : Aside0 (gb131 ≠ gb107) := ⟨h10_⟩
     have NB110_131 : Aside0 (gb110 ≠ gb131) := ⟨h11_⟩
     have NB131_110 : Aside0 (gb131 ≠ gb110) := ⟨h12_⟩
     replace HI0 : Aside0 (IsS79 w0 w27 g s0_0 t116) := ⟨h13_⟩
     replace HK : Aside0 (KeepBut w w27 g none) := ⟨h14_⟩
     replace HB : Aside0 (Below w0.heap.size w0 w27) := ⟨h15_⟩
     clear h0_ h1_ h2_ h3_ h4_ h5_ h6_ h7_ h8_ h9_ h10_ h11_ h12_ h13_ h14_ h15_
     have hHeld : w27.cell? ⟨gb110, 0, none⟩ = some (.int .i64 (wrap64 (2 + t108))) ∧ w27.cell? ⟨gb110, 1, none⟩ = some (u111001) := hS_
     refine nm2_ ?_
     refine one_ (i := 10) (N := some 26) z38_11 rfl rfl (one_of HT_.out (by kernel_rfl)) (by decide) (fun K hK => ?_)
     refine go_ Tryd.func39 #[.pointer (some ⟨g, 0, none⟩), .int .i64 100] ?_
     with_reducible refine (spec_l30Rd_pick.calls k1 g s0_0 t116 100 t117 t118 w0 _ ?side1 ?side2 A14.out).mono ?_
     (case side1 => exact HI0.out)
     (case side2 => exact HB.out)
     rintro e w28 ⟨rfl, hi, hb, hk⟩
     refine ⟨_, rfl, ?_⟩
     replace HO_111001 := Aside0.mk (Kd.R_mono (Kd.R_keep (IsS79.apart (show IsS79 w0 _ g s0_0 t116 from ni79_38 HI0.out) HO_111001.out (by decide)) hk (fun _ h => h.2)) (fun _ h => h.1))
     replace BK107 := kk_ BK107 hk NB107_0
     replace BK110 := kk_ BK110 hk NB110_0
     replace HO126 := Aside0.mk (Kd.R_mono (Kd.R_keep (IsS79.apart (show IsS79 w0 _ g s0_0 t116 from ni79_38 HI0.out) HO126.out (by decide)) hk (fun _ h => h.2)) (fun _ h => h.1))
     replace BK131 := kk_ BK131 hk NB131_0
     replace HK := Aside0.mk (KeepBut.trans HK.out hk (.inl rfl))
     replace HB := Aside0.mk (hb)
     replace HI0 := Aside0.mk (hi)
     (try clear hb)
     (try clear hb2)
     (try clear hk)
     (try clear hi)
     refine hK.out _ _ ⟨ct_ BK110.out 0, ct_ BK110.out 1⟩ (fun hHeld => ?_)
     clear hK K
     refine nm1_ (some 26) ?_
     exact norm_ nn_ (hJ3_7_10_14_19 (v125, gb131) _ ⟨hHeld, HO126.out, HO_111001.out, BK107.out, BK110.out, BK131.out, GW131.out, GE131.out, NB0_131.out, NB131_0.out, NB107_131.out, NB131_107.out, NB110_131.out, NB131_110.out, HI0.out, HK.out, HB.out⟩)
    intro hJ3_7_14_19
    refine join_ (σ := Unit) 8 z38_16 (fun s_ => [(19, .int .i64 t113), (23, .int .i64 t115), (26, .int .i64 t117)]) (fun s_ w' => (w'.cell? ⟨gb110, 0, none⟩ = some (.int .i64 (wrap64 (2 + t108))) ∧ w'.cell? ⟨gb110, 1, none⟩ = some (u111001)) ∧ (Kd.R k54 54 w' w.heap.size (fun _ => True) u111001 x111001_1) ∧ (w'.heap[gb107]? = some (.cells #[.int .i64 0, .slice none 0 0] 25 (0, 0))) ∧ (w'.heap[gb110]? = some (.cells #[.int .i64 (wrap64 (2 + t108)), u111001] 25 (0, 0))) ∧ (IsS79 w0 w' g s0_0 t118) ∧ (KeepBut w w' g none) ∧ (Below w0.heap.size w0 w')) ?_ ?_
    ·skip
     rintro _ w25 ⟨hS_, h0_, h1_, h2_, h3_, h4_, h5_⟩
     replace HO_111001 : Aside0 (Kd.R k54 54 w25 w.heap.size (fun _ => True) u111001 x111001_1) := ⟨h0_⟩
     replace BK107 : Aside0 (w25.heap[gb107]? = some (.cells #[.int .i64 0, .slice none 0 0] 25 (0, 0))) := ⟨h1_⟩
     replace BK110 : Aside0 (w25.heap[gb110]? = some (.cells #[.int .i64 (wrap64 (2 + t108)), u111001] 25 (0, 0))) := ⟨h2_⟩
     replace HI0 : Aside0 (IsS79 w0 w25 g s0_0 t118) := ⟨h3_⟩
     replace HK : Aside0 (KeepBut w w25 g none) := ⟨h4_⟩
     replace HB : Aside0 (Below w0.heap.size w0 w25) := ⟨h5_⟩
     clear h0_ h1_ h2_ h3_ h4_ h5_
     have hHeld : w25.cell? ⟨gb110, 0, none⟩ = some (.int .i64 (wrap64 (2 + t108))) ∧ w25.cell? ⟨gb110, 1, none⟩ = some (u111001) := hS_
     refine nm2_ ?_
     refine three_ (i := 11) (j := 14) (k := 19) (Ni := some 27) (Nj := some 30) (Nk := some 5) z38_12 z38_13 z38_14 rfl rfl rfl rfl rfl rfl (three_of HT_.out (by kernel_rfl)) (by decide) (by decide) (by decide) (fun K hK => ?_) (fun K hK => ?_) (fun K hK => ?_)
     ·skip
      refine ls_ 27 3 [0, 1, 2, 5, 9, t117] [.int .i64 0, .int .i64 1, .int .i64 2, .int .i64 5, .int .i64 9, .int .i64 t117] ?_
      intro v120 w26 ho27 hb hg_ hnew_
      clear hg_ hnew_
      (first | rw [← Ny119.out] at ho27 | (simp only [Int.reduceToNat] at ho27; rw [← Ny119.out] at ho27))
      replace HO_111001 := Aside0.mk (rB38 HO_111001.out hb)
      have HO121 := Aside0.mk (Kd.R_lower ho27 (keep_size (w := w) (g := g) (row := none) HK.out))
      replace BK107 := kb_ BK107 hb
      replace BK110 := kb_ BK110 hb
      replace HI0 := Aside0.mk (IsS79.below HI0.out hb)
      replace HK := Aside0.mk (KeepBut.trans HK.out (KeepBut.of_below hb g none) (.inl rfl))
      replace HB := Aside0.mk (below_step HB.out hb)
      clear hb ho27
      refine hK.out _ _ ⟨ct_ BK110.out 0, ct_ BK110.out 1⟩ (fun hHeld => ?_)
      clear hK K
      refine nm1_ (some 27) ?_
      exact norm_ nn_ (hJ3_7_10_11 (v120) _ ⟨hHeld, HO121.out, HO_111001.out, BK107.out, BK110.out, HI0.out, HK.out, HB.out⟩)
     ·skip
      refine ls_ 30 3 [0, 0, 3, 8] [.int .i64 0, .int .i64 0, .int .i64 3, .int .i64 8] ?_
      intro v125 w26 ho27 hb hg_ hnew_
      clear hg_ hnew_
      (first | rw [← Ny124.out] at ho27 | (simp only [Int.reduceToNat] at ho27; rw [← Ny124.out] at ho27))
      replace HO_111001 := Aside0.mk (rB38 HO_111001.out hb)
      have HO126 := Aside0.mk (Kd.R_lower ho27 (keep_size (w := w) (g := g) (row := none) HK.out))
      replace BK107 := kb_ BK107 hb
      replace BK110 := kb_ BK110 hb
      replace HI0 := Aside0.mk (IsS79.below HI0.out hb)
      replace HK := Aside0.mk (KeepBut.trans HK.out (KeepBut.of_below hb g none) (.inl rfl))
      replace HB := Aside0.mk (below_step HB.out hb)
      clear hb ho27
      refine hK.out _ _ ⟨ct_ BK110.out 0, ct_ BK110.out 1⟩ (fun hHeld => ?_)
      clear hK K
      refine nm1_ (some 30) ?_
      exact norm_ nn_ (hJ3_7_10_14 (v125) _ ⟨hHeld, HO126.out, HO_111001.out, BK107.out, BK110.out, HI0.out, HK.out, HB.out⟩)
     ·skip
      refine bs_ 5 #[.int .i64 0, .int .i64 0, .int .i64 0, .int .i64 0, .int .i64 0] 54 ?_
      intro gb131 hg w26 hbox hb
      replace HO_111001 := Aside0.mk (rB38 (Kd.R_elderB HO_111001.out gb131 (Nat.le_of_eq hg.symm)) hb)
      replace HB := Aside0.mk (below_step HB.out hb)
      have BK131 := Aside0.mk (hbox)
      have GW131 := Aside0.mk ((by rw [hg]; exact (keep_size (w := w) (g := g) (row := none) HK.out) : w.heap.size ≤ gb131))
      have GE131 := Aside0.mk ((Nat.le_trans HW0.out (by rw [hg]; exact (keep_size (w := w) (g := g) (row := none) HK.out) : w.heap.size ≤ gb131) : w0.heap.size ≤ gb131))
      replace HK := Aside0.mk (KeepBut.trans HK.out (KeepBut.of_below hb g none) (.inl rfl))
      have NB107_131 := Aside0.mk (nl_ BK107.out hg)
      have NB131_107 := Aside0.mk (nm_ BK107.out hg)
      replace BK107 := kb_ BK107 hb
      have NB110_131 := Aside0.mk (nl_ BK110.out hg)
      have NB131_110 := Aside0.mk (nm_ BK110.out hg)
      replace BK110 := kb_ BK110 hb
      have NB0_131 := Aside0.mk ((by rw [hg]; exact Nat.ne_of_lt (IsS79.lt (show IsS79 w0 _ g s0_0 t118 from ni79_38 HI0.out)) : g ≠ gb131))
      have NB131_0 := Aside0.mk ((by rw [hg]; exact Nat.ne_of_gt (IsS79.lt (show IsS79 w0 _ g s0_0 t118 from ni79_38 HI0.out)) : gb131 ≠ g))
      replace HI0 := Aside0.mk (IsS79.below HI0.out hb)
      clear hb hbox hg
      refine hK.out _ _ ⟨ct_ BK110.out 0, ct_ BK110.out 1⟩ (fun hHeld => ?_)
      clear hK K
      refine nm1_ (some 5) ?_
      exact norm_ nn_ (hJ3_7_10_19 (gb131) _ ⟨hHeld, (by (with_reducible repeat (first | apply rA38 | apply rN38 | apply Kd.R_drew)); exact Kd.R_mono HO_111001.out (fun _ hk => by first | exact hk.2 | trivial | simp_all)), BK107.out, BK110.out, BK131.out, GW131.out, GE131.out, NB0_131.out, NB131_0.out, NB107_131.out, NB131_107.out, NB110_131.out, NB131_110.out, HI0.out, HK.out, HB.out⟩)
    intro hJ3_7_10
    refine join_ (σ := Value) 8 z38_17 (fun s_ => [(19, .int .i64 t113), (23, .int .i64 t115), (30, s_)]) (fun s_ w' => (w'.cell? ⟨gb110, 0, none⟩ = some (.int .i64 (wrap64 (2 + t108))) ∧ w'.cell? ⟨gb110, 1, none⟩ = some (u111001)) ∧ (Kd.R (Kd.int .i64) 3 w' w.heap.size (fun _ => True) s_ y124) ∧ (Kd.R k54 54 w' w.heap.size (fun _ => True) u111001 x111001_1) ∧ (w'.heap[gb107]? = some (.cells #[.int .i64 0, .slice none 0 0] 25 (0, 0))) ∧ (w'.heap[gb110]? = some (.cells #[.int .i64 (wrap64 (2 + t108)), u111001] 25 (0, 0))) ∧ (IsS79 w0 w' g s0_0 t116) ∧ (KeepBut w w' g none) ∧ (Below w0.heap.size w0 w')) ?_ ?_
    ·skip
     rintro v125 w26 ⟨hS_, h0_, h1_, h2_, h3_, h4_, h5_, h6_⟩
     have HO126 : Aside0 (Kd.R (Kd.int .i64) 3 w26 w.heap.size (fun _ => True) v125 y124) := ⟨h0_⟩
     replace HO_111001 : Aside0 (Kd.R k54 54 w26 w.heap.size (fun _ => True) u111001 x111001_1) := ⟨h1_⟩
     replace BK107 : Aside0 (w26.heap[gb107]? = some (.cells #[.int .i64 0, .slice none 0 0] 25 (0, 0))) := ⟨h2_⟩
     replace BK110 : Aside0 (w26.heap[gb110]? = some (.cells #[.int .i64 (wrap64 (2 + t108)), u111001] 25 (0, 0))) := ⟨h3_⟩
     replace HI0 : Aside0 (IsS79 w0 w26 g s0_0 t116) := ⟨h4_⟩
     replace HK : Aside0 (KeepBut w w26 g none) := ⟨h5_⟩
     replace HB : Aside0 (Below w0.heap.size w0 w26) := ⟨h6_⟩
     clear h0_ h1_ h2_ h3_ h4_ h5_ h6_
     have hHeld : w26.cell? ⟨gb110, 0, none⟩ = some (.int .i64 (wrap64 (2 + t108))) ∧ w26.cell? ⟨gb110, 1, none⟩ = some (u111001) := hS_
     refine nm2_ ?_
     refine two_ (i := 10) (j := 19) (Ni := some 26) (Nj := some 5) z38_13 z38_15 rfl rfl rfl rfl (two_of HT_.out (by kernel_rfl)) (by decide) (by decide) (fun K hK => ?_) (fun K hK => ?_)
     ·skip
      refine go_ Tryd.func39 #[.pointer (some ⟨g, 0, none⟩), .int .i64 100] ?_
      with_reducible refine (spec_l30Rd_pick.calls k1 g s0_0 t116 100 t117 t118 w0 _ ?side1 ?side2 A14.out).mono ?_
      (case side1 => exact HI0.out)
      (case side2 => exact HB.out)
      rintro e w27 ⟨rfl, hi, hb, hk⟩
      refine ⟨_, rfl, ?_⟩
      replace HO_111001 := Aside0.mk (Kd.R_mono (Kd.R_keep (IsS79.apart (show IsS79 w0 _ g s0_0 t116 from ni79_38 HI0.out) HO_111001.out (by decide)) hk (fun _ h => h.2)) (fun _ h => h.1))
      replace BK107 := kk_ BK107 hk NB107_0
      replace BK110 := kk_ BK110 hk NB110_0
      replace HO126 := Aside0.mk (Kd.R_mono (Kd.R_keep (IsS79.apart (show IsS79 w0 _ g s0_0 t116 from ni79_38 HI0.out) HO126.out (by decide)) hk (fun _ h => h.2)) (fun _ h => h.1))
      replace HK := Aside0.mk (KeepBut.trans HK.out hk (.inl rfl))
      replace HB := Aside0.mk (hb)
      replace HI0 := Aside0.mk (hi)
      (try clear hb)
      (try clear hb2)
      (try clear hk)
      (try clear hi)
      refine hK.out _ _ ⟨ct_ BK110.out 0, ct_ BK110.out 1⟩ (fun hHeld => ?_)
      clear hK K
      refine nm1_ (some 26) ?_
      exact norm_ nn_ (hJ3_7_10_14 (v125) _ ⟨hHeld, HO126.out, HO_111001.out, BK107.out, BK110.out, HI0.out, HK.out, HB.out⟩)
     ·skip
      refine bs_ 5 #[.int .i64 0, .int .i64 0, .int .i64 0, .int .i64 0, .int .i64 0] 54 ?_
      intro gb131 hg w27 hbox hb
      replace HO_111001 := Aside0.mk (rB38 (Kd.R_elderB HO_111001.out gb131 (Nat.le_of_eq hg.symm)) hb)
      replace HO126 := Aside0.mk (rB38 HO126.out hb)
      replace HB := Aside0.mk (below_step HB.out hb)
      have BK131 := Aside0.mk (hbox)
      have GW131 := Aside0.mk ((by rw [hg]; exact (keep_size (w := w) (g := g) (row := none) HK.out) : w.heap.size ≤ gb131))
      have GE131 := Aside0.mk ((Nat.le_trans HW0.out (by rw [hg]; exact (keep_size (w := w) (g := g) (row := none) HK.out) : w.heap.size ≤ gb131) : w0.heap.size ≤ gb131))
      replace HK := Aside0.mk (KeepBut.trans HK.out (KeepBut.of_below hb g none) (.inl rfl))
      have NB107_131 := Aside0.mk (nl_ BK107.out hg)
      have NB131_107 := Aside0.mk (nm_ BK107.out hg)
      replace BK107 := kb_ BK107 hb
      have NB110_131 := Aside0.mk (nl_ BK110.out hg)
      have NB131_110 := Aside0.mk (nm_ BK110.out hg)
      replace BK110 := kb_ BK110 hb
      have NB0_131 := Aside0.mk ((by rw [hg]; exact Nat.ne_of_lt (IsS79.lt (show IsS79 w0 _ g s0_0 t116 from ni79_38 HI0.out)) : g ≠ gb131))
      have NB131_0 := Aside0.mk ((by rw [hg]; exact Nat.ne_of_gt (IsS79.lt (show IsS79 w0 _ g s0_0 t116 from ni79_38 HI0.out)) : gb131 ≠ g))
      replace HI0 := Aside0.mk (IsS79.below HI0.out hb)
      clear hb hbox hg
      refine hK.out _ _ ⟨ct_ BK110.out 0, ct_ BK110.out 1⟩ (fun hHeld => ?_)
      clear hK K
      refine nm1_ (some 5) ?_
      exact norm_ nn_ (hJ3_7_14_19 (v125, gb131) _ ⟨hHeld, HO126.out, (by (with_reducible repeat (first | apply rA38 | apply rN38 | apply Kd.R_drew)); exact Kd.R_mono HO_111001.out (fun _ hk => by first | exact hk.2 | trivial | simp_all)), BK107.out, BK110.out, BK131.out, GW131.out, GE131.out, NB0_131.out, NB131_0.out, NB107_131.out, NB131_107.out, NB110_131.out, NB131_110.out, HI0.out, HK.out, HB.out⟩)
    intro hJ3_7_14
    refine join_ (σ := Nat) 8 z38_18 (fun s_ => [(19, .int .i64 t113), (23, .int .i64 t115), (5, .pointer (some ⟨s_, 0, none⟩))]) (fun s_ w' => (w'.cell? ⟨gb110, 0, none⟩ = some (.int .i64 (wrap64 (2 + t108))) ∧ w'.cell? ⟨gb110, 1, none⟩ = some (u111001)) ∧ (Kd.R k54 54 w' w.heap.size (fun k_ => k_ ≠ s_) u111001 x111001_1) ∧ (w'.heap[gb107]? = some (.cells #[.int .i64 0, .slice none 0 0] 25 (0, 0))) ∧ (w'.heap[gb110]? = some (.cells #[.int .i64 (wrap64 (2 + t108)), u111001] 25 (0, 0))) ∧ (w'.heap[s_]? = some (.cells #[.int .i64 0, .int .i64 0, .int .i64 0, .int .i64 0, .int .i64 0] 54 (0, 0))) ∧ (w.heap.size ≤ s_) ∧ (w0.heap.size ≤ s_) ∧ (g ≠ s_) ∧ (s_ ≠ g) ∧ (gb107 ≠ s_) ∧ (s_ ≠ gb107) ∧ (gb110 ≠ s_) ∧ (s_ ≠ gb110) ∧ (IsS79 w0 w' g s0_0 t116) ∧ (KeepBut w w' g none) ∧ (Below w0.heap.size w0 w')) ?_ ?_
    ·skip
     rintro gb131 w25 ⟨hS_, h0_, h1_, h2_, h3_, h4_, h5_, h6_, h7_, h8_, h9_, h10_, h11_, h12_, h13_, h14_⟩
     replace HO_111001 : Aside0 (Kd.R k54 54 w25 w.heap.size (fun k_ => k_ ≠ gb131) u111001 x111001_1) := ⟨h0_⟩
     replace BK107 : Aside0 (w25.heap[gb107]? = some (.cells #[.int .i64 0, .slice none 0 0] 25 (0, 0))) := ⟨h1_⟩
     replace BK110 : Aside0 (w25.heap[gb110]? = some (.cells #[.int .i64 (wrap64 (2 + t108)), u111001] 25 (0, 0))) := ⟨h2_⟩
     have BK131 : Aside0 (w25.heap[gb131]? = some (.cells #[.int .i64 0, .int .i64 0, .int .i64 0, .int .i64 0, .int .i64 0] 54 (0, 0))) := ⟨h3_⟩
     have GW131 : Aside0 (w.heap.size ≤ gb131) := ⟨h4_⟩
     have GE131 : Aside0 (w0.heap.size ≤ gb131) := ⟨h5_⟩
     have NB0_131 : Aside0 (g ≠ gb131) := ⟨h6_⟩
     have NB131_0 : Aside0 (gb131 ≠ g) := ⟨h7_⟩
     have NB107_131 : Aside0 (gb107 ≠ gb131) := ⟨h8_⟩
     have NB131_107 : Aside0 (gb131 ≠ gb107) := ⟨h9_⟩
     have NB110_131 : Aside0 (gb110 ≠ gb131) := ⟨h10_⟩
     have NB131_110 : Aside0 (gb131 ≠ gb110) := ⟨h11_⟩
     replace HI0 : Aside0 (IsS79 w0 w25 g s0_0 t116) := ⟨h12_⟩
     replace HK : Aside0 (KeepBut w w25 g none) := ⟨h13_⟩
     replace HB : Aside0 (Below w0.heap.size w0 w25) := ⟨h14_⟩
     clear h0_ h1_ h2_ h3_ h4_ h5_ h6_ h7_ h8_ h9_ h10_ h11_ h12_ h13_ h14_
     have hHeld : w25.cell? ⟨gb110, 0, none⟩ = some (.int .i64 (wrap64 (2 + t108))) ∧ w25.cell? ⟨gb110, 1, none⟩ = some (u111001) := hS_
     refine nm2_ ?_
     refine two_ (i := 10) (j := 14) (Ni := some 26) (Nj := some 30) z38_14 z38_15 rfl rfl rfl rfl (two_of HT_.out (by kernel_rfl)) (by decide) (by decide) (fun K hK => ?_) (fun K hK => ?_)
     ·skip
      refine go_ Tryd.func39 #[.pointer (some ⟨g, 0, none⟩), .int .i64 100] ?_
      with_reducible refine (spec_l30Rd_pick.calls k1 g s0_0 t116 100 t117 t118 w0 _ ?side1 ?side2 A14.out).mono ?_
      (case side1 => exact HI0.out)
      (case side2 => exact HB.out)
      rintro e w26 ⟨rfl, hi, hb, hk⟩
      refine ⟨_, rfl, ?_⟩
      replace HO_111001 := Aside0.mk (Kd.R_mono (Kd.R_keep (IsS79.apart (show IsS79 w0 _ g s0_0 t116 from ni79_38 HI0.out) HO_111001.out (by decide)) hk (fun _ h => h.2)) (fun _ h => h.1))
      replace BK107 := kk_ BK107 hk NB107_0
      replace BK110 := kk_ BK110 hk NB110_0
      replace BK131 := kk_ BK131 hk NB131_0
      replace HK := Aside0.mk (KeepBut.trans HK.out hk (.inl rfl))
      replace HB := Aside0.mk (hb)
      replace HI0 := Aside0.mk (hi)
      (try clear hb)
      (try clear hb2)
      (try clear hk)
      (try clear hi)
      refine hK.out _ _ ⟨ct_ BK110.out 0, ct_ BK110.out 1⟩ (fun hHeld => ?_)
      clear hK K
      refine nm1_ (some 26) ?_
      exact norm_ nn_ (hJ3_7_10_19 (gb131) _ ⟨hHeld, HO_111001.out, BK107.out, BK110.out, BK131.out, GW131.out, GE131.out, NB0_131.out, NB131_0.out, NB107_131.out, NB131_107.out, NB110_131.out, NB131_110.out, HI0.out, HK.out, HB.out⟩)
     ·skip
      refine ls_ 30 3 [0, 0, 3, 8] [.int .i64 0, .int .i64 0, .int .i64 3, .int .i64 8] ?_
      intro v125 w26 ho27 hb hg_ hnew_
      clear hg_ hnew_
      (first | rw [← Ny124.out] at ho27 | (simp only [Int.reduceToNat] at ho27; rw [← Ny124.out] at ho27))
      replace HO_111001 := Aside0.mk (rB38 HO_111001.out hb)
      have HO126 := Aside0.mk (Kd.R_lower ho27 (keep_size (w := w) (g := g) (row := none) HK.out))
      replace BK107 := kb_ BK107 hb
      replace BK110 := kb_ BK110 hb
      replace HI0 := Aside0.mk (IsS79.below HI0.out hb)
      replace BK131 := kb_ BK131 hb
      replace HK := Aside0.mk (KeepBut.trans HK.out (KeepBut.of_below hb g none) (.inl rfl))
      replace HB := Aside0.mk (below_step HB.out hb)
      clear hb ho27
      refine hK.out _ _ ⟨ct_ BK110.out 0, ct_ BK110.out 1⟩ (fun hHeld => ?_)
      clear hK K
      refine nm1_ (some 30) ?_
      exact norm_ nn_ (hJ3_7_14_19 (v125, gb131) _ ⟨hHeld, HO126.out, HO_111001.out, BK107.out, BK110.out, BK131.out, GW131.out, GE131.out, NB0_131.out, NB131_0.out, NB107_131.out, NB131_107.out, NB110_131.out, NB131_110.out, HI0.out, HK.out, HB.out⟩)
    intro hJ3_7_19
    refine join_ (σ := Value × Nat) 8 z38_19 (fun s_ => [(19, .int .i64 t113), (30, s_.1), (5, .pointer (some ⟨s_.2, 0, none⟩))]) (fun s_ w' => (w'.cell? ⟨gb110, 0, none⟩ = some (.int .i64 (wrap64 (2 + t108))) ∧ w'.cell? ⟨gb110, 1, none⟩ = some (u111001)) ∧ (Kd.R (Kd.int .i64) 3 w' w.heap.size (fun _ => True) s_.1 y124) ∧ (Kd.R k54 54 w' w.heap.size (fun k_ => k_ ≠ s_.2) u111001 x111001_1) ∧ (w'.heap[gb107]? = some (.cells #[.int .i64 0, .slice none 0 0] 25 (0, 0))) ∧ (w'.heap[gb110]? = some (.cells #[.int .i64 (wrap64 (2 + t108)), u111001] 25 (0, 0))) ∧ (w'.heap[s_.2]? = some (.cells #[.int .i64 0, .int .i64 0, .int .i64 0, .int .i64 0, .int .i64 0] 54 (0, 0))) ∧ (w.heap.size ≤ s_.2) ∧ (w0.heap.size ≤ s_.2) ∧ (g ≠ s_.2) ∧ (s_.2 ≠ g) ∧ (gb107 ≠ s_.2) ∧ (s_.2 ≠ gb107) ∧ (gb110 ≠ s_.2) ∧ (s_.2 ≠ gb110) ∧ (IsS79 w0 w' g s0_0 t114) ∧ (KeepBut w w' g none) ∧ (Below w0.heap.size w0 w')) ?_ ?_
    ·skip
     rintro ⟨v125, gb131⟩ w26 ⟨hS_, h0_, h1_, h2_, h3_, h4_, h5_, h6_, h7_, h8_, h9_, h10_, h11_, h12_, h13_, h14_, h15_⟩
     have HO126 : Aside0 (Kd.R (Kd.int .i64) 3 w26 w.heap.size (fun _ => True) v125 y124) := ⟨h0_⟩
     replace HO_111001 : Aside0 (Kd.R k54 54 w26 w.heap.size (fun k_ => k_ ≠ gb131) u111001 x111001_1) := ⟨h1_⟩
     replace BK107 : Aside0 (w26.heap[gb107]? = some (.cells #[.int .i64 0, .slice none 0 0] 25 (0, 0))) := ⟨h2_⟩
     replace BK110 : Aside0 (w26.heap[gb110]? = some (.cells #[.int .i64 (wrap64 (2 + t108)), u111001] 25 (0, 0))) := ⟨h3_⟩
     have BK131 : Aside0 (w26.heap[gb131]? = some (.cells #[.int .i64 0, .int .i64 0, .int .i64 0, .int .i64 0, .int .i64 0] 54 (0, 0))) := ⟨h4_⟩
     have GW131 : Aside0 (w.heap.size ≤ gb131) := ⟨h5_⟩
     have GE131 : Aside0 (w0.heap.size ≤ gb131) := ⟨h6_⟩
     have NB0_131 : Aside0 (g ≠ gb131) := ⟨h7_⟩
     have NB131_0 : Aside0 (gb131 ≠ g) := ⟨h8_⟩
     have NB107_131 : Aside0 (gb107 ≠ gb131) := ⟨h9_⟩
     have NB131_107 : Aside0 (gb131 ≠ gb107) := ⟨h10_⟩
     have NB110_131 : Aside0 (gb110 ≠ gb131) := ⟨h11_⟩
     have NB131_110 : Aside0 (gb131 ≠ gb110) := ⟨h12_⟩
     replace HI0 : Aside0 (IsS79 w0 w26 g s0_0 t114) := ⟨h13_⟩
     replace HK : Aside0 (KeepBut w w26 g none) := ⟨h14_⟩
     replace HB : Aside0 (Below w0.heap.size w0 w26) := ⟨h15_⟩
     clear h0_ h1_ h2_ h3_ h4_ h5_ h6_ h7_ h8_ h9_ h10_ h11_ h12_ h13_ h14_ h15_
     have hHeld : w26.cell? ⟨gb110, 0, none⟩ = some (.int .i64 (wrap64 (2 + t108))) ∧ w26.cell? ⟨gb110, 1, none⟩ = some (u111001) := hS_
     refine nm2_ ?_
     refine one_ (i := 7) (N := some 23) z38_15 rfl rfl (one_of HT_.out (by kernel_rfl)) (by decide) (fun K hK => ?_)
     refine go_ Tryd.func39 #[.pointer (some ⟨g, 0, none⟩), .int .i64 (wrap64 (2 + t108))] ?_
     with_reducible refine (spec_l30Rd_pick.calls k1 g s0_0 t114 (wrap64 (2 + t108)) t115 t116 w0 _ ?side1 ?side2 A13.out).mono ?_
     (case side1 => exact HI0.out)
     (case side2 => exact HB.out)
     rintro e w27 ⟨rfl, hi, hb, hk⟩
     refine ⟨_, rfl, ?_⟩
     replace HO_111001 := Aside0.mk (Kd.R_mono (Kd.R_keep (IsS79.apart (show IsS79 w0 _ g s0_0 t114 from ni79_38 HI0.out) HO_111001.out (by decide)) hk (fun _ h => h.2)) (fun _ h => h.1))
     replace BK107 := kk_ BK107 hk NB107_0
     replace BK110 := kk_ BK110 hk NB110_0
     replace HO126 := Aside0.mk (Kd.R_mono (Kd.R_keep (IsS79.apart (show IsS79 w0 _ g s0_0 t114 from ni79_38 HI0.out) HO126.out (by decide)) hk (fun _ h => h.2)) (fun _ h => h.1))
     replace BK131 := kk_ BK131 hk NB131_0
     replace HK := Aside0.mk (KeepBut.trans HK.out hk (.inl rfl))
     replace HB := Aside0.mk (hb)
     replace HI0 := Aside0.mk (hi)
     (try clear hb)
     (try clear hb2)
     (try clear hk)
     (try clear hi)
     refine hK.out _ _ ⟨ct_ BK110.out 0, ct_ BK110.out 1⟩ (fun hHeld => ?_)
     clear hK K
     refine nm1_ (some 23) ?_
     exact norm_ nn_ (hJ3_7_14_19 (v125, gb131) _ ⟨hHeld, HO126.out, HO_111001.out, BK107.out, BK110.out, BK131.out, GW131.out, GE131.out, NB0_131.out, NB131_0.out, NB107_131.out, NB131_107.out, NB110_131.out, NB131_110.out, HI0.out, HK.out, HB.out⟩)
    intro hJ3_14_19
    refine join_ (σ := Unit) 9 z38_20 (fun s_ => [(19, .int .i64 t113), (23, .int .i64 t115)]) (fun s_ w' => (w'.cell? ⟨gb110, 0, none⟩ = some (.int .i64 (wrap64 (2 + t108))) ∧ w'.cell? ⟨gb110, 1, none⟩ = some (u111001)) ∧ (Kd.R k54 54 w' w.heap.size (fun _ => True) u111001 x111001_1) ∧ (w'.heap[gb107]? = some (.cells #[.int .i64 0, .slice none 0 0] 25 (0, 0))) ∧ (w'.heap[gb110]? = some (.cells #[.int .i64 (wrap64 (2 + t108)), u111001] 25 (0, 0))) ∧ (IsS79 w0 w' g s0_0 t116) ∧ (KeepBut w w' g none) ∧ (Below w0.heap.size w0 w')) ?_ ?_
    ·skip
     rintro _ w24 ⟨hS_, h0_, h1_, h2_, h3_, h4_, h5_⟩
     replace HO_111001 : Aside0 (Kd.R k54 54 w24 w.heap.size (fun _ => True) u111001 x111001_1) := ⟨h0_⟩
     replace BK107 : Aside0 (w24.heap[gb107]? = some (.cells #[.int .i64 0, .slice none 0 0] 25 (0, 0))) := ⟨h1_⟩
     replace BK110 : Aside0 (w24.heap[gb110]? = some (.cells #[.int .i64 (wrap64 (2 + t108)), u111001] 25 (0, 0))) := ⟨h2_⟩
     replace HI0 : Aside0 (IsS79 w0 w24 g s0_0 t116) := ⟨h3_⟩
     replace HK : Aside0 (KeepBut w w24 g none) := ⟨h4_⟩
     replace HB : Aside0 (Below w0.heap.size w0 w24) := ⟨h5_⟩
     clear h0_ h1_ h2_ h3_ h4_ h5_
     have hHeld : w24.cell? ⟨gb110, 0, none⟩ = some (.int .i64 (wrap64 (2 + t108))) ∧ w24.cell? ⟨gb110, 1, none⟩ = some (u111001) := hS_
     refine nm2_ ?_
     refine three_ (i := 10) (j := 14) (k := 19) (Ni := some 26) (Nj := some 30) (Nk := some 5) z38_16 z38_17 z38_18 rfl rfl rfl rfl rfl rfl (three_of HT_.out (by kernel_rfl)) (by decide) (by decide) (by decide) (fun K hK => ?_) (fun K hK => ?_) (fun K hK => ?_)
     ·skip
      refine go_ Tryd.func39 #[.pointer (some ⟨g, 0, none⟩), .int .i64 100] ?_
      with_reducible refine (spec_l30Rd_pick.calls k1 g s0_0 t116 100 t117 t118 w0 _ ?side1 ?side2 A14.out).mono ?_
      (case side1 => exact HI0.out)
      (case side2 => exact HB.out)
      rintro e w25 ⟨rfl, hi, hb, hk⟩
      refine ⟨_, rfl, ?_⟩
      replace HO_111001 := Aside0.mk (Kd.R_mono (Kd.R_keep (IsS79.apart (show IsS79 w0 _ g s0_0 t116 from ni79_38 HI0.out) HO_111001.out (by decide)) hk (fun _ h => h.2)) (fun _ h => h.1))
      replace BK107 := kk_ BK107 hk NB107_0
      replace BK110 := kk_ BK110 hk NB110_0
      replace HK := Aside0.mk (KeepBut.trans HK.out hk (.inl rfl))
      replace HB := Aside0.mk (hb)
      replace HI0 := Aside0.mk (hi)
      (try clear hb)
      (try clear hb2)
      (try clear hk)
      (try clear hi)
      refine hK.out _ _ ⟨ct_ BK110.out 0, ct_ BK110.out 1⟩ (fun hHeld => ?_)
      clear hK K
      refine nm1_ (some 26) ?_
      exact norm_ nn_ (hJ3_7_10 () _ ⟨hHeld, HO_111001.out, BK107.out, BK110.out, HI0.out, HK.out, HB.out⟩)
     ·skip
      refine ls_ 30 3 [0, 0, 3, 8] [.int .i64 0, .int .i64 0, .int .i64 3, .int .i64 8] ?_
      intro v125 w25 ho26 hb hg_ hnew_
      clear hg_ hnew_
      (first | rw [← Ny124.out] at ho26 | (simp only [Int.reduceToNat] at ho26; rw [← Ny124.out] at ho26))
      replace HO_111001 := Aside0.mk (rB38 HO_111001.out hb)
      have HO126 := Aside0.mk (Kd.R_lower ho26 (keep_size (w := w) (g := g) (row := none) HK.out))
      replace BK107 := kb_ BK107 hb
      replace BK110 := kb_ BK110 hb
      replace HI0 := Aside0.mk (IsS79.below HI0.out hb)
      replace HK := Aside0.mk (KeepBut.trans HK.out (KeepBut.of_below hb g none) (.inl rfl))
      replace HB := Aside0.mk (below_step HB.out hb)
      clear hb ho26
      refine hK.out _ _ ⟨ct_ BK110.out 0, ct_ BK110.out 1⟩ (fun hHeld => ?_)
      clear hK K
      refine nm1_ (some 30) ?_
      exact norm_ nn_ (hJ3_7_14 (v125) _ ⟨hHeld, HO126.out, HO_111001.out, BK107.out, BK110.out, HI0.out, HK.out, HB.out⟩)
     ·skip
      refine bs_ 5 #[.int .i64 0, .int .i64 0, .int .i64 0, .int .i64 0, .int .i64 0] 54 ?_
      intro gb131 hg w25 hbox hb
      replace HO_111001 := Aside0.mk (rB38 (Kd.R_elderB HO_111001.out gb131 (Nat.le_of_eq hg.symm)) hb)
      replace HB := Aside0.mk (below_step HB.out hb)
      have BK131 := Aside0.mk (hbox)
      have GW131 := Aside0.mk ((by rw [hg]; exact (keep_size (w := w) (g := g) (row := none) HK.out) : w.heap.size ≤ gb131))
      have GE131 := Aside0.mk ((Nat.le_trans HW0.out (by rw [hg]; exact (keep_size (w := w) (g := g) (row := none) HK.out) : w.heap.size ≤ gb131) : w0.heap.size ≤ gb131))
      replace HK := Aside0.mk (KeepBut.trans HK.out (KeepBut.of_below hb g none) (.inl rfl))
      have NB107_131 := Aside0.mk (nl_ BK107.out hg)
      have NB131_107 := Aside0.mk (nm_ BK107.out hg)
      replace BK107 := kb_ BK107 hb
      have NB110_131 := Aside0.mk (nl_ BK110.out hg)
      have NB131_110 := Aside0.mk (nm_ BK110.out hg)
      replace BK110 := kb_ BK110 hb
      have NB0_131 := Aside0.mk ((by rw [hg]; exact Nat.ne_of_lt (IsS79.lt (show IsS79 w0 _ g s0_0 t116 from ni79_38 HI0.out)) : g ≠ gb131))
      have NB131_0 := Aside0.mk ((by rw [hg]; exact Nat.ne_of_gt (IsS79.lt (show IsS79 w0 _ g s0_0 t116 from ni79_38 HI0.out)) : gb131 ≠ g))
      replace HI0 := Aside0.mk (IsS79.below HI0.out hb)
      clear hb hbox hg
      refine hK.out _ _ ⟨ct_ BK110.out 0, ct_ BK110.out 1⟩ (fun hHeld => ?_)
      clear hK K
      refine nm1_ (some 5) ?_
      exact norm_ nn_ (hJ3_7_19 (gb131) _ ⟨hHeld, (by (with_reducible repeat (first | apply rA38 | apply rN38 | apply Kd.R_drew)); exact Kd.R_mono HO_111001.out (fun _ hk => by first | exact hk.2 | trivial | simp_all)), BK107.out, BK110.out, BK131.out, GW131.out, GE131.out, NB0_131.out, NB131_0.out, NB107_131.out, NB131_107.out, NB110_131.out, NB131_110.out, HI0.out, HK.out, HB.out⟩)
    intro hJ3_7
    refine join_ (σ := Value) 9 z38_21 (fun s_ => [(19, .int .i64 t113), (30, s_)]) (fun s_ w' => (w'.cell? ⟨gb110, 0, none⟩ = some (.int .i64 (wrap64 (2 + t108))) ∧ w'.cell? ⟨gb110, 1, none⟩ = some (u111001)) ∧ (Kd.R (Kd.int .i64) 3 w' w.heap.size (fun _ => True) s_ y124) ∧ (Kd.R k54 54 w' w.heap.size (fun _ => True) u111001 x111001_1) ∧ (w'.heap[gb107]? = some (.cells #[.int .i64 0, .slice none 0 0] 25 (0, 0))) ∧ (w'.heap[gb110]? = some (.cells #[.int .i64 (wrap64 (2 + t108)), u111001] 25 (0, 0))) ∧ (IsS79 w0 w' g s0_0 t114) ∧ (KeepBut w w' g none) ∧ (Below w0.heap.size w0 w')) ?_ ?_
    ·skip
     rintro v125 w25 ⟨hS_, h0_, h1_, h2_, h3_, h4_, h5_, h6_⟩
     have HO126 : Aside0 (Kd.R (Kd.int .i64) 3 w25 w.heap.size (fun _ => True) v125 y124) := ⟨h0_⟩
     replace HO_111001 : Aside0 (Kd.R k54 54 w25 w.heap.size (fun _ => True) u111001 x111001_1) := ⟨h1_⟩
     replace BK107 : Aside0 (w25.heap[gb107]? = some (.cells #[.int .i64 0, .slice none 0 0] 25 (0, 0))) := ⟨h2_⟩
     replace BK110 : Aside0 (w25.heap[gb110]? = some (.cells #[.int .i64 (wrap64 (2 + t108)), u111001] 25 (0, 0))) := ⟨h3_⟩
     replace HI0 : Aside0 (IsS79 w0 w25 g s0_0 t114) := ⟨h4_⟩
     replace HK : Aside0 (KeepBut w w25 g none) := ⟨h5_⟩
     replace HB : Aside0 (Below w0.heap.size w0 w25) := ⟨h6_⟩
     clear h0_ h1_ h2_ h3_ h4_ h5_ h6_
     have hHeld : w25.cell? ⟨gb110, 0, none⟩ = some (.int .i64 (wrap64 (2 + t108))) ∧ w25.cell? ⟨gb110, 1, none⟩ = some (u111001) := hS_
     refine nm2_ ?_
     refine two_ (i := 7) (j := 19) (Ni := some 23) (Nj := some 5) z38_17 z38_19 rfl rfl rfl rfl (two_of HT_.out (by kernel_rfl)) (by decide) (by decide) (fun K hK => ?_) (fun K hK => ?_)
     ·skip
      refine go_ Tryd.func39 #[.pointer (some ⟨g, 0, none⟩), .int .i64 (wrap64 (2 + t108))] ?_
      with_reducible refine (spec_l30Rd_pick.calls k1 g s0_0 t114 (wrap64 (2 + t108)) t115 t116 w0 _ ?side1 ?side2 A13.out).mono ?_
      (case side1 => exact HI0.out)
      (case side2 => exact HB.out)
      rintro e w26 ⟨rfl, hi, hb, hk⟩
      refine ⟨_, rfl, ?_⟩
      replace HO_111001 := Aside0.mk (Kd.R_mono (Kd.R_keep (IsS79.apart (show IsS79 w0 _ g s0_0 t114 from ni79_38 HI0.out) HO_111001.out (by decide)) hk (fun _ h => h.2)) (fun _ h => h.1))
      replace BK107 := kk_ BK107 hk NB107_0
      replace BK110 := kk_ BK110 hk NB110_0
      replace HO126 := Aside0.mk (Kd.R_mono (Kd.R_keep (IsS79.apart (show IsS79 w0 _ g s0_0 t114 from ni79_38 HI0.out) HO126.out (by decide)) hk (fun _ h => h.2)) (fun _ h => h.1))
      replace HK := Aside0.mk (KeepBut.trans HK.out hk (.inl rfl))
      replace HB := Aside0.mk (hb)
      replace HI0 := Aside0.mk (hi)
      (try clear hb)
      (try clear hb2)
      (try clear hk)
      (try clear hi)
      refine hK.out _ _ ⟨ct_ BK110.out 0, ct_ BK110.out 1⟩ (fun hHeld => ?_)
      clear hK K
      refine nm1_ (some 23) ?_
      exact norm_ nn_ (hJ3_7_14 (v125) _ ⟨hHeld, HO126.out, HO_111001.out, BK107.out, BK110.out, HI0.out, HK.out, HB.out⟩)
     ·skip
      refine bs_ 5 #[.int .i64 0, .int .i64 0, .int .i64 0, .int .i64 0, .int .i64 0] 54 ?_
      intro gb131 hg w26 hbox hb
      replace HO_111001 := Aside0.mk (rB38 (Kd.R_elderB HO_111001.out gb131 (Nat.le_of_eq hg.symm)) hb)
      replace HO126 := Aside0.mk (rB38 HO126.out hb)
      replace HB := Aside0.mk (below_step HB.out hb)
      have BK131 := Aside0.mk (hbox)
      have GW131 := Aside0.mk ((by rw [hg]; exact (keep_size (w := w) (g := g) (row := none) HK.out) : w.heap.size ≤ gb131))
      have GE131 := Aside0.mk ((Nat.le_trans HW0.out (by rw [hg]; exact (keep_size (w := w) (g := g) (row := none) HK.out) : w.heap.size ≤ gb131) : w0.heap.size ≤ gb131))
      replace HK := Aside0.mk (KeepBut.trans HK.out (KeepBut.of_below hb g none) (.inl rfl))
      have NB107_131 := Aside0.mk (nl_ BK107.out hg)
      have NB131_107 := Aside0.mk (nm_ BK107.out hg)
      replace BK107 := kb_ BK107 hb
      have NB110_131 := Aside0.mk (nl_ BK110.out hg)
      have NB131_110 := Aside0.mk (nm_ BK110.out hg)
      replace BK110 := kb_ BK110 hb
      have NB0_131 := Aside0.mk ((by rw [hg]; exact Nat.ne_of_lt (IsS79.lt (show IsS79 w0 _ g s0_0 t114 from ni79_38 HI0.out)) : g ≠ gb131))
      have NB131_0 := Aside0.mk ((by rw [hg]; exact Nat.ne_of_gt (IsS79.lt (show IsS79 w0 _ g s0_0 t114 from ni79_38 HI0.out)) : gb131 ≠ g))
      replace HI0 := Aside0.mk (IsS79.below HI0.out hb)
      clear hb hbox hg
      refine hK.out _ _ ⟨ct_ BK110.out 0, ct_ BK110.out 1⟩ (fun hHeld => ?_)
      clear hK K
      refine nm1_ (some 5) ?_
      exact norm_ nn_ (hJ3_14_19 (v125, gb131) _ ⟨hHeld, HO126.out, (by (with_reducible repeat (first | apply rA38 | apply rN38 | apply Kd.R_drew)); exact Kd.R_mono HO_111001.out (fun _ hk => by first | exact hk.2 | trivial | simp_all)), BK107.out, BK110.out, BK131.out, GW131.out, GE131.out, NB0_131.out, NB131_0.out, NB107_131.out, NB131_107.out, NB110_131.out, NB131_110.out, HI0.out, HK.out, HB.out⟩)
    intro hJ3_14
    refine join_ (σ := Nat) 9 z38_22 (fun s_ => [(19, .int .i64 t113), (5, .pointer (some ⟨s_, 0, none⟩))]) (fun s_ w' => (w'.cell? ⟨gb110, 0, none⟩ = some (.int .i64 (wrap64 (2 + t108))) ∧ w'.cell? ⟨gb110, 1, none⟩ = some (u111001)) ∧ (Kd.R k54 54 w' w.heap.size (fun k_ => k_ ≠ s_) u111001 x111001_1) ∧ (w'.heap[gb107]? = some (.cells #[.int .i64 0, .slice none 0 0] 25 (0, 0))) ∧ (w'.heap[gb110]? = some (.cells #[.int .i64 (wrap64 (2 + t108)), u111001] 25 (0, 0))) ∧ (w'.heap[s_]? = some (.cells #[.int .i64 0, .int .i64 0, .int .i64 0, .int .i64 0, .int .i64 0] 54 (0, 0))) ∧ (w.heap.size ≤ s_) ∧ (w0.heap.size ≤ s_) ∧ (g ≠ s_) ∧ (s_ ≠ g) ∧ (gb107 ≠ s_) ∧ (s_ ≠ gb107) ∧ (gb110 ≠ s_) ∧ (s_ ≠ gb110) ∧ (IsS79 w0 w' g s0_0 t114) ∧ (KeepBut w w' g none) ∧ (Below w0.heap.size w0 w')) ?_ ?_
    ·skip
     rintro gb131 w24 ⟨hS_, h0_, h1_, h2_, h3_, h4_, h5_, h6_, h7_, h8_, h9_, h10_, h11_, h12_, h13_, h14_⟩
     replace HO_111001 : Aside0 (Kd.R k54 54 w24 w.heap.size (fun k_ => k_ ≠ gb131) u111001 x111001_1) := ⟨h0_⟩
     replace BK107 : Aside0 (w24.heap[gb107]? = some (.cells #[.int .i64 0, .slice none 0 0] 25 (0, 0))) := ⟨h1_⟩
     replace BK110 : Aside0 (w24.heap[gb110]? = some (.cells #[.int .i64 (wrap64 (2 + t108)), u111001] 25 (0, 0))) := ⟨h2_⟩
     have BK131 : Aside0 (w24.heap[gb131]? = some (.cells #[.int .i64 0, .int .i64 0, .int .i64 0, .int .i64 0, .int .i64 0] 54 (0, 0))) := ⟨h3_⟩
     have GW131 : Aside0 (w.heap.size ≤ gb131) := ⟨h4_⟩
     have GE131 : Aside0 (w0.heap.size ≤ gb131) := ⟨h5_⟩
     have NB0_131 : Aside0 (g ≠ gb131) := ⟨h6_⟩
     have NB131_0 : Aside0 (gb131 ≠ g) := ⟨h7_⟩
     have NB107_131 : Aside0 (gb107 ≠ gb131) := ⟨h8_⟩
     have NB131_107 : Aside0 (gb131 ≠ gb107) := ⟨h9_⟩
     have NB110_131 : Aside0 (gb110 ≠ gb131) := ⟨h10_⟩
     have NB131_110 : Aside0 (gb131 ≠ gb110) := ⟨h11_⟩
     replace HI0 : Aside0 (IsS79 w0 w24 g s0_0 t114) := ⟨h12_⟩
     replace HK : Aside0 (KeepBut w w24 g none) := ⟨h13_⟩
     replace HB : Aside0 (Below w0.heap.size w0 w24) := ⟨h14_⟩
     clear h0_ h1_ h2_ h3_ h4_ h5_ h6_ h7_ h8_ h9_ h10_ h11_ h12_ h13_ h14_
     have hHeld : w24.cell? ⟨gb110, 0, none⟩ = some (.int .i64 (wrap64 (2 + t108))) ∧ w24.cell? ⟨gb110, 1, none⟩ = some (u111001) := hS_
     refine nm2_ ?_
     refine two_ (i := 7) (j := 14) (Ni := some 23) (Nj := some 30) z38_18 z38_19 rfl rfl rfl rfl (two_of HT_.out (by kernel_rfl)) (by decide) (by decide) (fun K hK => ?_) (fun K hK => ?_)
     ·skip
      refine go_ Tryd.func39 #[.pointer (some ⟨g, 0, none⟩), .int .i64 (wrap64 (2 + t108))] ?_
      with_reducible refine (spec_l30Rd_pick.calls k1 g s0_0 t114 (wrap64 (2 + t108)) t115 t116 w0 _ ?side1 ?side2 A13.out).mono ?_
      (case side1 => exact HI0.out)
      (case side2 => exact HB.out)
      rintro e w25 ⟨rfl, hi, hb, hk⟩
      refine ⟨_, rfl, ?_⟩
      replace HO_111001 := Aside0.mk (Kd.R_mono (Kd.R_keep (IsS79.apart (show IsS79 w0 _ g s0_0 t114 from ni79_38 HI0.out) HO_111001.out (by decide)) hk (fun _ h => h.2)) (fun _ h => h.1))
      replace BK107 := kk_ BK107 hk NB107_0
      replace BK110 := kk_ BK110 hk NB110_0
      replace BK131 := kk_ BK131 hk NB131_0
      replace HK := Aside0.mk (KeepBut.trans HK.out hk (.inl rfl))
      replace HB := Aside0.mk (hb)
      replace HI0 := Aside0.mk (hi)
      (try clear hb)
      (try clear hb2)
      (try clear hk)
      (try clear hi)
      refine hK.out _ _ ⟨ct_ BK110.out 0, ct_ BK110.out 1⟩ (fun hHeld => ?_)
      clear hK K
      refine nm1_ (some 23) ?_
      exact norm_ nn_ (hJ3_7_19 (gb131) _ ⟨hHeld, HO_111001.out, BK107.out, BK110.out, BK131.out, GW131.out, GE131.out, NB0_131.out, NB131_0.out, NB107_131.out, NB131_107.out, NB110_131.out, NB131_110.out, HI0.out, HK.out, HB.out⟩)
     ·skip
      refine ls_ 30 3 [0, 0, 3, 8] [.int .i64 0, .int .i64 0, .int .i64 3, .int .i64 8] ?_
      intro v125 w25 ho26 hb hg_ hnew_
      clear hg_ hnew_
      (first | rw [← Ny124.out] at ho26 | (simp only [Int.reduceToNat] at ho26; rw [← Ny124.out] at ho26))
      replace HO_111001 := Aside0.mk (rB38 HO_111001.out hb)
      have HO126 := Aside0.mk (Kd.R_lower ho26 (keep_size (w := w) (g := g) (row := none) HK.out))
      replace BK107 := kb_ BK107 hb
      replace BK110 := kb_ BK110 hb
      replace HI0 := Aside0.mk (IsS79.below HI0.out hb)
      replace BK131 := kb_ BK131 hb
      replace HK := Aside0.mk (KeepBut.trans HK.out (KeepBut.of_below hb g none) (.inl rfl))
      replace HB := Aside0.mk (below_step HB.out hb)
      clear hb ho26
      refine hK.out _ _ ⟨ct_ BK110.out 0, ct_ BK110.out 1⟩ (fun hHeld => ?_)
      clear hK K
      refine nm1_ (some 30) ?_
      exact norm_ nn_ (hJ3_14_19 (v125, gb131) _ ⟨hHeld, HO126.out, HO_111001.out, BK107.out, BK110.out, BK131.out, GW131.out, GE131.out, NB0_131.out, NB131_0.out, NB107_131.out, NB131_107.out, NB110_131.out, NB131_110.out, HI0.out, HK.out, HB.out⟩)
    intro hJ3_19
    refine join_ (σ := Value × Nat) 9 z38_23 (fun s_ => [(30, s_.1), (5, .pointer (some ⟨s_.2, 0, none⟩))]) (fun s_ w' => (w'.cell? ⟨gb110, 0, none⟩ = some (.int .i64 (wrap64 (2 + t108))) ∧ w'.cell? ⟨gb110, 1, none⟩ = some (u111001)) ∧ (Kd.R (Kd.int .i64) 3 w' w.heap.size (fun _ => True) s_.1 y124) ∧ (Kd.R k54 54 w' w.heap.size (fun k_ => k_ ≠ s_.2) u111001 x111001_1) ∧ (w'.heap[gb107]? = some (.cells #[.int .i64 0, .slice none 0 0] 25 (0, 0))) ∧ (w'.heap[gb110]? = some (.cells #[.int .i64 (wrap64 (2 + t108)), u111001] 25 (0, 0))) ∧ (w'.heap[s_.2]? = some (.cells #[.int .i64 0, .int .i64 0, .int .i64 0, .int .i64 0, .int .i64 0] 54 (0, 0))) ∧ (w.heap.size ≤ s_.2) ∧ (w0.heap.size ≤ s_.2) ∧ (g ≠ s_.2) ∧ (s_.2 ≠ g) ∧ (gb107 ≠ s_.2) ∧ (s_.2 ≠ gb107) ∧ (gb110 ≠ s_.2) ∧ (s_.2 ≠ gb110) ∧ (IsS79 w0 w' g s0_0 x1001_1) ∧ (KeepBut w w' g none) ∧ (Below w0.heap.size w0 w')) ?_ ?_
    ·skip
     rintro ⟨v125, gb131⟩ w25 ⟨hS_, h0_, h1_, h2_, h3_, h4_, h5_, h6_, h7_, h8_, h9_, h10_, h11_, h12_, h13_, h14_, h15_⟩
     have HO126 : Aside0 (Kd.R (Kd.int .i64) 3 w25 w.heap.size (fun _ => True) v125 y124) := ⟨h0_⟩
     replace HO_111001 : Aside0 (Kd.R k54 54 w25 w.heap.size (fun k_ => k_ ≠ gb131) u111001 x111001_1) := ⟨h1_⟩
     replace BK107 : Aside0 (w25.heap[gb107]? = some (.cells #[.int .i64 0, .slice none 0 0] 25 (0, 0))) := ⟨h2_⟩
     replace BK110 : Aside0 (w25.heap[gb110]? = some (.cells #[.int .i64 (wrap64 (2 + t108)), u111001] 25 (0, 0))) := ⟨h3_⟩
     have BK131 : Aside0 (w25.heap[gb131]? = some (.cells #[.int .i64 0, .int .i64 0, .int .i64 0, .int .i64 0, .int .i64 0] 54 (0, 0))) := ⟨h4_⟩
     have GW131 : Aside0 (w.heap.size ≤ gb131) := ⟨h5_⟩
     have GE131 : Aside0 (w0.heap.size ≤ gb131) := ⟨h6_⟩
     have NB0_131 : Aside0 (g ≠ gb131) := ⟨h7_⟩
     have NB131_0 : Aside0 (gb131 ≠ g) := ⟨h8_⟩
     have NB107_131 : Aside0 (gb107 ≠ gb131) := ⟨h9_⟩
     have NB131_107 : Aside0 (gb131 ≠ gb107) := ⟨h10_⟩
     have NB110_131 : Aside0 (gb110 ≠ gb131) := ⟨h11_⟩
     have NB131_110 : Aside0 (gb131 ≠ gb110) := ⟨h12_⟩
     replace HI0 : Aside0 (IsS79 w0 w25 g s0_0 x1001_1) := ⟨h13_⟩
     replace HK : Aside0 (KeepBut w w25 g none) := ⟨h14_⟩
     replace HB : Aside0 (Below w0.heap.size w0 w25) := ⟨h15_⟩
     clear h0_ h1_ h2_ h3_ h4_ h5_ h6_ h7_ h8_ h9_ h10_ h11_ h12_ h13_ h14_ h15_
     have hHeld : w25.cell? ⟨gb110, 0, none⟩ = some (.int .i64 (wrap64 (2 + t108))) ∧ w25.cell? ⟨gb110, 1, none⟩ = some (u111001) := hS_
     refine nm2_ ?_
     refine one_ (i := 3) (N := some 19) z38_19 rfl rfl (one_of HT_.out (by kernel_rfl)) (by decide) (fun K hK => ?_)
     refine go_ Tryd.func39 #[.pointer (some ⟨g, 0, none⟩), .int .i64 (wrap64 (2 + t108))] ?_
     with_reducible refine (spec_l30Rd_pick.calls k1 g s0_0 x1001_1 (wrap64 (2 + t108)) t113 t114 w0 _ ?side1 ?side2 A12.out).mono ?_
     (case side1 => exact HI0.out)
     (case side2 => exact HB.out)
     rintro e w26 ⟨rfl, hi, hb, hk⟩
     refine ⟨_, rfl, ?_⟩
     replace HO_111001 := Aside0.mk (Kd.R_mono (Kd.R_keep (IsS79.apart (show IsS79 w0 _ g s0_0 x1001_1 from ni79_38 HI0.out) HO_111001.out (by decide)) hk (fun _ h => h.2)) (fun _ h => h.1))
     replace BK107 := kk_ BK107 hk NB107_0
     replace BK110 := kk_ BK110 hk NB110_0
     replace HO126 := Aside0.mk (Kd.R_mono (Kd.R_keep (IsS79.apart (show IsS79 w0 _ g s0_0 x1001_1 from ni79_38 HI0.out) HO126.out (by decide)) hk (fun _ h => h.2)) (fun _ h => h.1))
     replace BK131 := kk_ BK131 hk NB131_0
     replace HK := Aside0.mk (KeepBut.trans HK.out hk (.inl rfl))
     replace HB := Aside0.mk (hb)
     replace HI0 := Aside0.mk (hi)
     (try clear hb)
     (try clear hb2)
     (try clear hk)
     (try clear hi)
     refine hK.out _ _ ⟨ct_ BK110.out 0, ct_ BK110.out 1⟩ (fun hHeld => ?_)
     clear hK K
     refine nm1_ (some 19) ?_
     exact norm_ nn_ (hJ3_14_19 (v125, gb131) _ ⟨hHeld, HO126.out, HO_111001.out, BK107.out, BK110.out, BK131.out, GW131.out, GE131.out, NB0_131.out, NB131_0.out, NB107_131.out, NB131_107.out, NB110_131.out, NB131_110.out, HI0.out, HK.out, HB.out⟩)
    intro hJ14_19
    refine join_ (σ := Unit) 10 z38_24 (fun s_ => [(19, .int .i64 t113)]) (fun s_ w' => (w'.cell? ⟨gb110, 0, none⟩ = some (.int .i64 (wrap64 (2 + t108))) ∧ w'.cell? ⟨gb110, 1, none⟩ = some (u111001)) ∧ (Kd.R k54 54 w' w.heap.size (fun _ => True) u111001 x111001_1) ∧ (w'.heap[gb107]? = some (.cells #[.int .i64 0, .slice none 0 0] 25 (0, 0))) ∧ (w'.heap[gb110]? = some (.cells #[.int .i64 (wrap64 (2 + t108)), u111001] 25 (0, 0))) ∧ (IsS79 w0 w' g s0_0 t114) ∧ (KeepBut w w' g none) ∧ (Below w0.heap.size w0 w')) ?_ ?_
    ·skip
     rintro _ w23 ⟨hS_, h0_, h1_, h2_, h3_, h4_, h5_⟩
     replace HO_111001 : Aside0 (Kd.R k54 54 w23 w.heap.size (fun _ => True) u111001 x111001_1) := ⟨h0_⟩
     replace BK107 : Aside0 (w23.heap[gb107]? = some (.cells #[.int .i64 0, .slice none 0 0] 25 (0, 0))) := ⟨h1_⟩
     replace BK110 : Aside0 (w23.heap[gb110]? = some (.cells #[.int .i64 (wrap64 (2 + t108)), u111001] 25 (0, 0))) := ⟨h2_⟩
     replace HI0 : Aside0 (IsS79 w0 w23 g s0_0 t114) := ⟨h3_⟩
     replace HK : Aside0 (KeepBut w w23 g none) := ⟨h4_⟩
     replace HB : Aside0 (Below w0.heap.size w0 w23) := ⟨h5_⟩
     clear h0_ h1_ h2_ h3_ h4_ h5_
     have hHeld : w23.cell? ⟨gb110, 0, none⟩ = some (.int .i64 (wrap64 (2 + t108))) ∧ w23.cell? ⟨gb110, 1, none⟩ = some (u111001) := hS_
     refine nm2_ ?_
     refine three_ (i := 7) (j := 14) (k := 19) (Ni := some 23) (Nj := some 30) (Nk := some 5) z38_20 z38_21 z38_22 rfl rfl rfl rfl rfl rfl (three_of HT_.out (by kernel_rfl)) (by decide) (by decide) (by decide) (fun K hK => ?_) (fun K hK => ?_) (fun K hK => ?_)
     ·skip
      refine go_ Tryd.func39 #[.pointer (some ⟨g, 0, none⟩), .int .i64 (wrap64 (2 + t108))] ?_
      with_reducible refine (spec_l30Rd_pick.calls k1 g s0_0 t114 (wrap64 (2 + t108)) t115 t116 w0 _ ?side1 ?side2 A13.out).mono ?_
      (case side1 => exact HI0.out)
      (case side2 => exact HB.out)
      rintro e w24 ⟨rfl, hi, hb, hk⟩
      refine ⟨_, rfl, ?_⟩
      replace HO_111001 := Aside0.mk (Kd.R_mono (Kd.R_keep (IsS79.apart (show IsS79 w0 _ g s0_0 t114 from ni79_38 HI0.out) HO_111001.out (by decide)) hk (fun _ h => h.2)) (fun _ h => h.1))
      replace BK107 := kk_ BK107 hk NB107_0
      replace BK110 := kk_ BK110 hk NB110_0
      replace HK := Aside0.mk (KeepBut.trans HK.out hk (.inl rfl))
      replace HB := Aside0.mk (hb)
      replace HI0 := Aside0.mk (hi)
      (try clear hb)
      (try clear hb2)
      (try clear hk)
      (try clear hi)
      refine hK.out _ _ ⟨ct_ BK110.out 0, ct_ BK110.out 1⟩ (fun hHeld => ?_)
      clear hK K
      refine nm1_ (some 23) ?_
      exact norm_ nn_ (hJ3_7 () _ ⟨hHeld, HO_111001.out, BK107.out, BK110.out, HI0.out, HK.out, HB.out⟩)
     ·skip
      refine ls_ 30 3 [0, 0, 3, 8] [.int .i64 0, .int .i64 0, .int .i64 3, .int .i64 8] ?_
      intro v125 w24 ho25 hb hg_ hnew_
      clear hg_ hnew_
      (first | rw [← Ny124.out] at ho25 | (simp only [Int.reduceToNat] at ho25; rw [← Ny124.out] at ho25))
      replace HO_111001 := Aside0.mk (rB38 HO_111001.out hb)
      have HO126 := Aside0.mk (Kd.R_lower ho25 (keep_size (w := w) (g := g) (row := none) HK.out))
      replace BK107 := kb_ BK107 hb
      replace BK110 := kb_ BK110 hb
      replace HI0 := Aside0.mk (IsS79.below HI0.out hb)
      replace HK := Aside0.mk (KeepBut.trans HK.out (KeepBut.of_below hb g none) (.inl rfl))
      replace HB := Aside0.mk (below_step HB.out hb)
      clear hb ho25
      refine hK.out _ _ ⟨ct_ BK110.out 0, ct_ BK110.out 1⟩ (fun hHeld => ?_)
      clear hK K
      refine nm1_ (some 30) ?_
      exact norm_ nn_ (hJ3_14 (v125) _ ⟨hHeld, HO126.out, HO_111001.out, BK107.out, BK110.out, HI0.out, HK.out, HB.out⟩)
     ·skip
      refine bs_ 5 #[.int .i64 0, .int .i64 0, .int .i64 0, .int .i64 0, .int .i64 0] 54 ?_
      intro gb131 hg w24 hbox hb
      replace HO_111001 := Aside0.mk (rB38 (Kd.R_elderB HO_111001.out gb131 (Nat.le_of_eq hg.symm)) hb)
      replace HB := Aside0.mk (below_step HB.out hb)
      have BK131 := Aside0.mk (hbox)
      have GW131 := Aside0.mk ((by rw [hg]; exact (keep_size (w := w) (g := g) (row := none) HK.out) : w.heap.size ≤ gb131))
      have GE131 := Aside0.mk ((Nat.le_trans HW0.out (by rw [hg]; exact (keep_size (w := w) (g := g) (row := none) HK.out) : w.heap.size ≤ gb131) : w0.heap.size ≤ gb131))
      replace HK := Aside0.mk (KeepBut.trans HK.out (KeepBut.of_below hb g none) (.inl rfl))
      have NB107_131 := Aside0.mk (nl_ BK107.out hg)
      have NB131_107 := Aside0.mk (nm_ BK107.out hg)
      replace BK107 := kb_ BK107 hb
      have NB110_131 := Aside0.mk (nl_ BK110.out hg)
      have NB131_110 := Aside0.mk (nm_ BK110.out hg)
      replace BK110 := kb_ BK110 hb
      have NB0_131 := Aside0.mk ((by rw [hg]; exact Nat.ne_of_lt (IsS79.lt (show IsS79 w0 _ g s0_0 t114 from ni79_38 HI0.out)) : g ≠ gb131))
      have NB131_0 := Aside0.mk ((by rw [hg]; exact Nat.ne_of_gt (IsS79.lt (show IsS79 w0 _ g s0_0 t114 from ni79_38 HI0.out)) : gb131 ≠ g))
      replace HI0 := Aside0.mk (IsS79.below HI0.out hb)
      clear hb hbox hg
      refine hK.out _ _ ⟨ct_ BK110.out 0, ct_ BK110.out 1⟩ (fun hHeld => ?_)
      clear hK K
      refine nm1_ (some 5) ?_
      exact norm_ nn_ (hJ3_19 (gb131) _ ⟨hHeld, (by (with_reducible repeat (first | apply rA38 | apply rN38 | apply Kd.R_drew)); exact Kd.R_mono HO_111001.out (fun _ hk => by first | exact hk.2 | trivial | simp_all)), BK107.out, BK110.out, BK131.out, GW131.out, GE131.out, NB0_131.out, NB131_0.out, NB107_131.out, NB131_107.out, NB110_131.out, NB131_110.out, HI0.out, HK.out, HB.out⟩)
    intro hJ3
    refine join_ (σ := Value) 10 z38_25 (fun s_ => [(30, s_)]) (fun s_ w' => (w'.cell? ⟨gb110, 0, none⟩ = some (.int .i64 (wrap64 (2 + t108))) ∧ w'.cell? ⟨gb110, 1, none⟩ = some (u111001)) ∧ (Kd.R (Kd.int .i64) 3 w' w.heap.size (fun _ => True) s_ y124) ∧ (Kd.R k54 54 w' w.heap.size (fun _ => True) u111001 x111001_1) ∧ (w'.heap[gb107]? = some (.cells #[.int .i64 0, .slice none 0 0] 25 (0, 0))) ∧ (w'.heap[gb110]? = some (.cells #[.int .i64 (wrap64 (2 + t108)), u111001] 25 (0, 0))) ∧ (IsS79 w0 w' g s0_0 x1001_1) ∧ (KeepBut w w' g none) ∧ (Below w0.heap.size w0 w')) ?_ ?_
    ·skip
     rintro v125 w24 ⟨hS_, h0_, h1_, h2_, h3_, h4_, h5_, h6_⟩
     have HO126 : Aside0 (Kd.R (Kd.int .i64) 3 w24 w.heap.size (fun _ => True) v125 y124) := ⟨h0_⟩
     replace HO_111001 : Aside0 (Kd.R k54 54 w24 w.heap.size (fun _ => True) u111001 x111001_1) := ⟨h1_⟩
     replace BK107 : Aside0 (w24.heap[gb107]? = some (.cells #[.int .i64 0, .slice none 0 0] 25 (0, 0))) := ⟨h2_⟩
     replace BK110 : Aside0 (w24.heap[gb110]? = some (.cells #[.int .i64 (wrap64 (2 + t108)), u111001] 25 (0, 0))) := ⟨h3_⟩
     replace HI0 : Aside0 (IsS79 w0 w24 g s0_0 x1001_1) := ⟨h4_⟩
     replace HK : Aside0 (KeepBut w w24 g none) := ⟨h5_⟩
     replace HB : Aside0 (Below w0.heap.size w0 w24) := ⟨h6_⟩
     clear h0_ h1_ h2_ h3_ h4_ h5_ h6_
     have hHeld : w24.cell? ⟨gb110, 0, none⟩ = some (.int .i64 (wrap64 (2 + t108))) ∧ w24.cell? ⟨gb110, 1, none⟩ = some (u111001) := hS_
     refine nm2_ ?_
     refine two_ (i := 3) (j := 19) (Ni := some 19) (Nj := some 5) z38_21 z38_23 rfl rfl rfl rfl (two_of HT_.out (by kernel_rfl)) (by decide) (by decide) (fun K hK => ?_) (fun K hK => ?_)
     ·skip
      refine go_ Tryd.func39 #[.pointer (some ⟨g, 0, none⟩), .int .i64 (wrap64 (2 + t108))] ?_
      with_reducible refine (spec_l30Rd_pick.calls k1 g s0_0 x1001_1 (wrap64 (2 + t108)) t113 t114 w0 _ ?side1 ?side2 A12.out).mono ?_
      (case side1 => exact HI0.out)
      (case side2 => exact HB.out)
      rintro e w25 ⟨rfl, hi, hb, hk⟩
      refine ⟨_, rfl, ?_⟩
      replace HO_111001 := Aside0.mk (Kd.R_mono (Kd.R_keep (IsS79.apart (show IsS79 w0 _ g s0_0 x1001_1 from ni79_38 HI0.out) HO_111001.out (by decide)) hk (fun _ h => h.2)) (fun _ h => h.1))
      replace BK107 := kk_ BK107 hk NB107_0
      replace BK110 := kk_ BK110 hk NB110_0
      replace HO126 := Aside0.mk (Kd.R_mono (Kd.R_keep (IsS79.apart (show IsS79 w0 _ g s0_0 x1001_1 from ni79_38 HI0.out) HO126.out (by decide)) hk (fun _ h => h.2)) (fun _ h => h.1))
      replace HK := Aside0.mk (KeepBut.trans HK.out hk (.inl rfl))
      replace HB := Aside0.mk (hb)
      replace HI0 := Aside0.mk (hi)
      (try clear hb)
      (try clear hb2)
      (try clear hk)
      (try clear hi)
      refine hK.out _ _ ⟨ct_ BK110.out 0, ct_ BK110.out 1⟩ (fun hHeld => ?_)
      clear hK K
      refine nm1_ (some 19) ?_
      exact norm_ nn_ (hJ3_14 (v125) _ ⟨hHeld, HO126.out, HO_111001.out, BK107.out, BK110.out, HI0.out, HK.out, HB.out⟩)
     ·skip
      refine bs_ 5 #[.int .i64 0, .int .i64 0, .int .i64 0, .int .i64 0, .int .i64 0] 54 ?_
      intro gb131 hg w25 hbox hb
      replace HO_111001 := Aside0.mk (rB38 (Kd.R_elderB HO_111001.out gb131 (Nat.le_of_eq hg.symm)) hb)
      replace HO126 := Aside0.mk (rB38 HO126.out hb)
      replace HB := Aside0.mk (below_step HB.out hb)
      have BK131 := Aside0.mk (hbox)
      have GW131 := Aside0.mk ((by rw [hg]; exact (keep_size (w := w) (g := g) (row := none) HK.out) : w.heap.size ≤ gb131))
      have GE131 := Aside0.mk ((Nat.le_trans HW0.out (by rw [hg]; exact (keep_size (w := w) (g := g) (row := none) HK.out) : w.heap.size ≤ gb131) : w0.heap.size ≤ gb131))
      replace HK := Aside0.mk (KeepBut.trans HK.out (KeepBut.of_below hb g none) (.inl rfl))
      have NB107_131 := Aside0.mk (nl_ BK107.out hg)
      have NB131_107 := Aside0.mk (nm_ BK107.out hg)
      replace BK107 := kb_ BK107 hb
      have NB110_131 := Aside0.mk (nl_ BK110.out hg)
      have NB131_110 := Aside0.mk (nm_ BK110.out hg)
      replace BK110 := kb_ BK110 hb
      have NB0_131 := Aside0.mk ((by rw [hg]; exact Nat.ne_of_lt (IsS79.lt (show IsS79 w0 _ g s0_0 x1001_1 from ni79_38 HI0.out)) : g ≠ gb131))
      have NB131_0 := Aside0.mk ((by rw [hg]; exact Nat.ne_of_gt (IsS79.lt (show IsS79 w0 _ g s0_0 x1001_1 from ni79_38 HI0.out)) : gb131 ≠ g))
      replace HI0 := Aside0.mk (IsS79.below HI0.out hb)
      clear hb hbox hg
      refine hK.out _ _ ⟨ct_ BK110.out 0, ct_ BK110.out 1⟩ (fun hHeld => ?_)
      clear hK K
      refine nm1_ (some 5) ?_
      exact norm_ nn_ (hJ14_19 (v125, gb131) _ ⟨hHeld, HO126.out, (by (with_reducible repeat (first | apply rA38 | apply rN38 | apply Kd.R_drew)); exact Kd.R_mono HO_111001.out (fun _ hk => by first | exact hk.2 | trivial | simp_all)), BK107.out, BK110.out, BK131.out, GW131.out, GE131.out, NB0_131.out, NB131_0.out, NB107_131.out, NB131_107.out, NB110_131.out, NB131_110.out, HI0.out, HK.out, HB.out⟩)
    intro hJ14
    refine join_ (σ := Nat) 10 z38_26 (fun s_ => [(5, .pointer (some ⟨s_, 0, none⟩))]) (fun s_ w' => (w'.cell? ⟨gb110, 0, none⟩ = some (.int .i64 (wrap64 (2 + t108))) ∧ w'.cell? ⟨gb110, 1, none⟩ = some (u111001)) ∧ (Kd.R k54 54 w' w.heap.size (fun k_ => k_ ≠ s_) u111001 x111001_1) ∧ (w'.heap[gb107]? = some (.cells #[.int .i64 0, .slice none 0 0] 25 (0, 0))) ∧ (w'.heap[gb110]? = some (.cells #[.int .i64 (wrap64 (2 + t108)), u111001] 25 (0, 0))) ∧ (w'.heap[s_]? = some (.cells #[.int .i64 0, .int .i64 0, .int .i64 0, .int .i64 0, .int .i64 0] 54 (0, 0))) ∧ (w.heap.size ≤ s_) ∧ (w0.heap.size ≤ s_) ∧ (g ≠ s_) ∧ (s_ ≠ g) ∧ (gb107 ≠ s_) ∧ (s_ ≠ gb107) ∧ (gb110 ≠ s_) ∧ (s_ ≠ gb110) ∧ (IsS79 w0 w' g s0_0 x1001_1) ∧ (KeepBut w w' g none) ∧ (Below w0.heap.size w0 w')) ?_ ?_
    ·skip
     rintro gb131 w23 ⟨hS_, h0_, h1_, h2_, h3_, h4_, h5_, h6_, h7_, h8_, h9_, h10_, h11_, h12_, h13_, h14_⟩
     replace HO_111001 : Aside0 (Kd.R k54 54 w23 w.heap.size (fun k_ => k_ ≠ gb131) u111001 x111001_1) := ⟨h0_⟩
     replace BK107 : Aside0 (w23.heap[gb107]? = some (.cells #[.int .i64 0, .slice none 0 0] 25 (0, 0))) := ⟨h1_⟩
     replace BK110 : Aside0 (w23.heap[gb110]? = some (.cells #[.int .i64 (wrap64 (2 + t108)), u111001] 25 (0, 0))) := ⟨h2_⟩
     have BK131 : Aside0 (w23.heap[gb131]? = some (.cells #[.int .i64 0, .int .i64 0, .int .i64 0, .int .i64 0, .int .i64 0] 54 (0, 0))) := ⟨h3_⟩
     have GW131 : Aside0 (w.heap.size ≤ gb131) := ⟨h4_⟩
     have GE131 : Aside0 (w0.heap.size ≤ gb131) := ⟨h5_⟩
     have NB0_131 : Aside0 (g ≠ gb131) := ⟨h6_⟩
     have NB131_0 : Aside0 (gb131 ≠ g) := ⟨h7_⟩
     have NB107_131 : Aside0 (gb107 ≠ gb131) := ⟨h8_⟩
     have NB131_107 : Aside0 (gb131 ≠ gb107) := ⟨h9_⟩
     have NB110_131 : Aside0 (gb110 ≠ gb131) := ⟨h10_⟩
     have NB131_110 : Aside0 (gb131 ≠ gb110) := ⟨h11_⟩
     replace HI0 : Aside0 (IsS79 w0 w23 g s0_0 x1001_1) := ⟨h12_⟩
     replace HK : Aside0 (KeepBut w w23 g none) := ⟨h13_⟩
     replace HB : Aside0 (Below w0.heap.size w0 w23) := ⟨h14_⟩
     clear h0_ h1_ h2_ h3_ h4_ h5_ h6_ h7_ h8_ h9_ h10_ h11_ h12_ h13_ h14_
     have hHeld : w23.cell? ⟨gb110, 0, none⟩ = some (.int .i64 (wrap64 (2 + t108))) ∧ w23.cell? ⟨gb110, 1, none⟩ = some (u111001) := hS_
     refine nm2_ ?_
     refine two_ (i := 3) (j := 14) (Ni := some 19) (Nj := some 30) z38_22 z38_23 rfl rfl rfl rfl (two_of HT_.out (by kernel_rfl)) (by decide) (by decide) (fun K hK => ?_) (fun K hK => ?_)
     ·skip
      refine go_ Tryd.func39 #[.pointer (some ⟨g, 0, none⟩), .int .i64 (wrap64 (2 + t108))] ?_
      with_reducible refine (spec_l30Rd_pick.calls k1 g s0_0 x1001_1 (wrap64 (2 + t108)) t113 t114 w0 _ ?side1 ?side2 A12.out).mono ?_
      (case side1 => exact HI0.out)
      (case side2 => exact HB.out)
      rintro e w24 ⟨rfl, hi, hb, hk⟩
      refine ⟨_, rfl, ?_⟩
      replace HO_111001 := Aside0.mk (Kd.R_mono (Kd.R_keep (IsS79.apart (show IsS79 w0 _ g s0_0 x1001_1 from ni79_38 HI0.out) HO_111001.out (by decide)) hk (fun _ h => h.2)) (fun _ h => h.1))
      replace BK107 := kk_ BK107 hk NB107_0
      replace BK110 := kk_ BK110 hk NB110_0
      replace BK131 := kk_ BK131 hk NB131_0
      replace HK := Aside0.mk (KeepBut.trans HK.out hk (.inl rfl))
      replace HB := Aside0.mk (hb)
      replace HI0 := Aside0.mk (hi)
      (try clear hb)
      (try clear hb2)
      (try clear hk)
      (try clear hi)
      refine hK.out _ _ ⟨ct_ BK110.out 0, ct_ BK110.out 1⟩ (fun hHeld => ?_)
      clear hK K
      refine nm1_ (some 19) ?_
      exact norm_ nn_ (hJ3_19 (gb131) _ ⟨hHeld, HO_111001.out, BK107.out, BK110.out, BK131.out, GW131.out, GE131.out, NB0_131.out, NB131_0.out, NB107_131.out, NB131_107.out, NB110_131.out, NB131_110.out, HI0.out, HK.out, HB.out⟩)
     ·skip
      refine ls_ 30 3 [0, 0, 3, 8] [.int .i64 0, .int .i64 0, .int .i64 3, .int .i64 8] ?_
      intro v125 w24 ho25 hb hg_ hnew_
      clear hg_ hnew_
      (first | rw [← Ny124.out] at ho25 | (simp only [Int.reduceToNat] at ho25; rw [← Ny124.out] at ho25))
      replace HO_111001 := Aside0.mk (rB38 HO_111001.out hb)
      have HO126 := Aside0.mk (Kd.R_lower ho25 (keep_size (w := w) (g := g) (row := none) HK.out))
      replace BK107 := kb_ BK107 hb
      replace BK110 := kb_ BK110 hb
      replace HI0 := Aside0.mk (IsS79.below HI0.out hb)
      replace BK131 := kb_ BK131 hb
      replace HK := Aside0.mk (KeepBut.trans HK.out (KeepBut.of_below hb g none) (.inl rfl))
      replace HB := Aside0.mk (below_step HB.out hb)
      clear hb ho25
      refine hK.out _ _ ⟨ct_ BK110.out 0, ct_ BK110.out 1⟩ (fun hHeld => ?_)
      clear hK K
      refine nm1_ (some 30) ?_
      exact norm_ nn_ (hJ14_19 (v125, gb131) _ ⟨hHeld, HO126.out, HO_111001.out, BK107.out, BK110.out, BK131.out, GW131.out, GE131.out, NB0_131.out, NB131_0.out, NB107_131.out, NB131_107.out, NB110_131.out, NB131_110.out, HI0.out, HK.out, HB.out⟩)
    intro hJ19
    refine three_ (i := 3) (j := 14) (k := 19) (Ni := some 19) (Nj := some 30) (Nk := some 5) z38_24 z38_25 z38_26 rfl rfl rfl rfl rfl rfl (three_of HT_.out (by kernel_rfl)) (by decide) (by decide) (by decide) (fun K hK => ?_) (fun K hK => ?_) (fun K hK => ?_)
    ·skip
     refine go_ Tryd.func39 #[.pointer (some ⟨g, 0, none⟩), .int .i64 (wrap64 (2 + t108))] ?_
     with_reducible refine (spec_l30Rd_pick.calls k1 g s0_0 x1001_1 (wrap64 (2 + t108)) t113 t114 w0 _ ?side1 ?side2 A12.out).mono ?_
     (case side1 => exact HI0.out)
     (case side2 => exact HB.out)
     rintro e w22 ⟨rfl, hi, hb, hk⟩
     refine ⟨_, rfl, ?_⟩
     replace HO_111001 := Aside0.mk (Kd.R_mono (Kd.R_keep (IsS79.apart (show IsS79 w0 _ g s0_0 x1001_1 from ni79_38 HI0.out) HO_111001.out (by decide)) hk (fun _ h => h.2)) (fun _ h => h.1))
     replace BK107 := kk_ BK107 hk NB107_0
     replace BK110 := kk_ BK110 hk NB110_0
     replace HK := Aside0.mk (KeepBut.trans HK.out hk (.inl rfl))
     replace HB := Aside0.mk (hb)
     replace HI0 := Aside0.mk (hi)
     (try clear hb)
     (try clear hb2)
     (try clear hk)
     (try clear hi)
     refine hK.out _ _ ⟨ct_ BK110.out 0, ct_ BK110.out 1⟩ (fun hHeld => ?_)
     clear hK K
     refine nm1_ (some 19) ?_
     exact norm_ nn_ (hJ3 () _ ⟨hHeld, HO_111001.out, BK107.out, BK110.out, HI0.out, HK.out, HB.out⟩)
    ·skip
     refine ls_ 30 3 [0, 0, 3, 8] [.int .i64 0, .int .i64 0, .int .i64 3, .int .i64 8] ?_
     intro v125 w22 ho23 hb hg_ hnew_
     clear hg_ hnew_
     (first | rw [← Ny124.out] at ho23 | (simp only [Int.reduceToNat] at ho23; rw [← Ny124.out] at ho23))
     replace HO_111001 := Aside0.mk (rB38 HO_111001.out hb)
     have HO126 := Aside0.mk (Kd.R_lower ho23 (keep_size (w := w) (g := g) (row := none) HK.out))
     replace BK107 := kb_ BK107 hb
     replace BK110 := kb_ BK110 hb
     replace HI0 := Aside0.mk (IsS79.below HI0.out hb)
     replace HK := Aside0.mk (KeepBut.trans HK.out (KeepBut.of_below hb g none) (.inl rfl))
     replace HB := Aside0.mk (below_step HB.out hb)
     clear hb ho23
     refine hK.out _ _ ⟨ct_ BK110.out 0, ct_ BK110.out 1⟩ (fun hHeld => ?_)
     clear hK K
     refine nm1_ (some 30) ?_
     exact norm_ nn_ (hJ14 (v125) _ ⟨hHeld, HO126.out, HO_111001.out, BK107.out, BK110.out, HI0.out, HK.out, HB.out⟩)
    ·skip
     refine bs_ 5 #[.int .i64 0, .int .i64 0, .int .i64 0, .int .i64 0, .int .i64 0] 54 ?_
     intro gb131 hg w22 hbox hb
     replace HO_111001 := Aside0.mk (rB38 (Kd.R_elderB HO_111001.out gb131 (Nat.le_of_eq hg.symm)) hb)
     replace HB := Aside0.mk (below_step HB.out hb)
     have BK131 := Aside0.mk (hbox)
     have GW131 := Aside0.mk ((by rw [hg]; exact (keep_size (w := w) (g := g) (row := none) HK.out) : w.heap.size ≤ gb131))
     have GE131 := Aside0.mk ((Nat.le_trans HW0.out (by rw [hg]; exact (keep_size (w := w) (g := g) (row := none) HK.out) : w.heap.size ≤ gb131) : w0.heap.size ≤ gb131))
     replace HK := Aside0.mk (KeepBut.trans HK.out (KeepBut.of_below hb g none) (.inl rfl))
     have NB107_131 := Aside0.mk (nl_ BK107.out hg)
     have NB131_107 := Aside0.mk (nm_ BK107.out hg)
     replace BK107 := kb_ BK107 hb
     have NB110_131 := Aside0.mk (nl_ BK110.out hg)
     have NB131_110 := Aside0.mk (nm_ BK110.out hg)
     replace BK110 := kb_ BK110 hb
     have NB0_131 := Aside0.mk ((by rw [hg]; exact Nat.ne_of_lt (IsS79.lt (show IsS79 w0 _ g s0_0 x1001_1 from ni79_38 HI0.out)) : g ≠ gb131))
     have NB131_0 := Aside0.mk ((by rw [hg]; exact Nat.ne_of_gt (IsS79.lt (show IsS79 w0 _ g s0_0 x1001_1 from ni79_38 HI0.out)) : gb131 ≠ g))
     replace HI0 := Aside0.mk (IsS79.below HI0.out hb)
     clear hb hbox hg
     refine hK.out _ _ ⟨ct_ BK110.out 0, ct_ BK110.out 1⟩ (fun hHeld => ?_)
     clear hK K
     refine nm1_ (some 5) ?_
     exact norm_ nn_ (hJ19 (gb131) _ ⟨hHeld, (by (with_reducible repeat (first | apply rA38 | apply rN38 | apply Kd.R_drew)); exact Kd.R_mono HO_111001.out (fun _ hk => by first | exact hk.2 | trivial | simp_all)), BK107.out, BK110.out, BK131.out, GW131.out, GE131.out, NB0_131.out, NB131_0.out, NB107_131.out, NB131_107.out, NB110_131.out, NB131_110.out, HI0.out, HK.out, HB.out⟩)
end Go.Proofs.YtppjelkljihdoaaDoor.Print
