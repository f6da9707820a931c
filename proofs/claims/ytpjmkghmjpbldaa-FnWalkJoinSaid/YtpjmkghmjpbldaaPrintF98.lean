-- Made by this session's own program (wip/patch_print.py, over the kit's print). Lean checks it.
import Derived.Test.YtpjmkghmjpbldaaPrint0
import Derived.Test.YtpjmkghmjpbldaaPrintF88
import Derived.Test.YtpjmkghmjpbldaaPrintF99
namespace Go.Proofs.Ytpjmkghmjpbldaa.Print
open Go.RowKit Go.Proofs.YtpjmkghmjpbldaaW.PrintWords Go.Proofs.YtpjmkghmjpbldaaW.PrintLast Go.Proofs.YtpjmkghmjpbldaaW.PrintMore Go.Proofs.YtpjmkghmjpbldaaX
attribute [local go_sem] max2_int min2_int max_two min_two max_three min_three max_four min_four   -- for this text's walks alone
set_option linter.unusedVariables false
set_option linter.unusedSimpArgs false

abbrev z98_0 := bm_ 21 1048575
abbrev z98_1 := bm_ 21 524287
abbrev z98_2 := bm_ 21 655359
abbrev z98_3 := bm_ 21 131071
abbrev z98_4 := bm_ 21 622591
abbrev z98_5 := bm_ 21 98303
abbrev z98_6 := bm_ 21 606207
abbrev z98_7 := bm_ 21 618495
abbrev z98_8 := bm_ 21 81919
abbrev z98_9 := bm_ 21 94207
abbrev z98_10 := bm_ 21 602111
abbrev z98_11 := bm_ 21 616447
abbrev z98_12 := bm_ 21 77823
abbrev z98_13 := bm_ 21 92159
abbrev z98_14 := bm_ 21 600063
abbrev z98_15 := bm_ 21 615423
abbrev z98_16 := bm_ 21 75775
abbrev z98_17 := bm_ 21 91135
abbrev z98_18 := bm_ 21 599039
abbrev z98_19 := bm_ 21 615295
abbrev z98_20 := bm_ 21 74751
abbrev z98_21 := bm_ 21 91007
abbrev z98_22 := bm_ 21 598911
abbrev z98_23 := bm_ 21 615287
abbrev z98_24 := bm_ 21 74623
abbrev z98_25 := bm_ 21 90999
abbrev z98_26 := bm_ 21 598903
abbrev rA98 := @Kd.R_alloc
abbrev rN98 := @Kd.R_drewN
abbrev rB98 := @Kd.R_below
theorem ng106_98 {B : Nat} {w W W' : World} (h : Below B w W) (e : Below B w W → Below B w W' := by intro h_; repeat (first | (with_reducible first | exact h_ | apply below_alloc | apply pw_below_drewN | apply below_drew1 | refine below_set ?_ (IsS106.ge (Aside0.out (by with_reducible assumption))) | refine below_set ?_ (Aside0.out (by with_reducible assumption))) | exact h_)) : Below B w W' := e h
theorem ni106_98 {p q : Prop} (h : p) (e : p → q := by intro h_; repeat (first | (with_reducible first | exact h_ | apply IsS106.alloc | apply IsS106.drewN | apply IsS106.drew | apply IsS106.set_1 | refine IsS106.far ?_ (Aside0.out (by with_reducible assumption)) _) | exact h_)) : q := e h
attribute [local go_sem ↓] Go.Proofs.YtpjmkghmjpbldaaX.isSome_set
/-! ### spec_l30Net: function 98 -/
def spec_l30Net.l0 : Nat → Int → List Int → Int → Int → List (S37) → Option (Int × (List (S37)) × Int)
  | 0, _, _, _, _, _ => none
  | k + 1, x4, x1000, x1001, x169000, x169001 => if x4 > 0 then ((spec_l30Rd_pick.f k x1000 x1001 x169000).bind fun bt171 => ((spec_l30Rd_pick.f k x1000 bt171.2 x169000).bind fun bt173 => ((spec_l30Rd_pick.f k x1000 bt173.2 100).bind fun bt175 => ((spec_l30Rd_one.f k x1000 bt175.2 (([0, 1, 2, 5, 9, bt175.1] : List Int))).bind fun bt180 => ((spec_l30Rd_one.f k x1000 bt180.2 (([0, 0, 3, 8] : List Int))).bind fun bt185 => ((spec_l30Rd_pick.f k x1000 bt185.2 10).bind fun bt187 => (if bt171.1 = bt173.1 then (if x169000 = 0 then (none) else (if x169001.length < 3518437208883 then (spec_l30Net.l0 k (wrap64 (x4 - 1)) x1000 bt187.2 x169000 (x169001 ++ [(⟨bt171.1, Int.tmod (wrap64 (bt173.1 + 1)) x169000, bt180.1, bt185.1, bt187.1⟩ : S37)])) else (none))) else (if x169001.length < 3518437208883 then (spec_l30Net.l0 k (wrap64 (x4 - 1)) x1000 bt187.2 x169000 (x169001 ++ [(⟨bt171.1, bt173.1, bt180.1, bt185.1, bt187.1⟩ : S37)])) else (none))))))))) else (some (x169000, x169001, x1001))
def spec_l30Net.f (k : Nat) (s0_0 : List Int) (s0_1 : Int) : Option (Int × (List (S37)) × Int) := (spec_l30Rd_pick.f k s0_0 s0_1 5).bind fun bt166 => ((spec_l30Rd_pick.f k s0_0 bt166.2 14).bind fun bt169 => (spec_l30Net.l0 k bt169.1 s0_0 bt169.2 (wrap64 (2 + bt166.1)) ([] : List (S37))))
theorem spec_l30Net.mono_l : ∀ k, (∀ y0 y1 y2 y3 y4, LeO (spec_l30Net.l0 k y0 y1 y2 y3 y4) (spec_l30Net.l0 (k + 1) y0 y1 y2 y3 y4))
  | 0 => fun _ _ _ _ _ r h => by simp [spec_l30Net.l0] at h
  | k + 1 => by
    have ih0 := spec_l30Net.mono_l k
    · intro y0 y1 y2 y3 y4
      unfold spec_l30Net.l0
      repeat' first | (with_reducible first | exact ih0 _ _ _ _ _ | exact spec_l30Rd_one.mono _ _ _ _ | exact spec_l30Rd_pick.mono _ _ _ _ | exact LeO.refl _ | exact LeO.none _ | refine LeO.ite ?_ ?_ | refine LeO.bind ?_ (fun _ => ?_)) | exact ih0 _ _ _ _ _ | exact spec_l30Rd_one.mono _ _ _ _ | exact spec_l30Rd_pick.mono _ _ _ _ | exact LeO.none _ | refine LeO.ite ?_ ?_ | refine LeO.bind ?_ (fun _ => ?_)
theorem spec_l30Net.mono : ∀ a0 a1 k, LeO (spec_l30Net.f k a0 a1) (spec_l30Net.f (k + 1) a0 a1) := by
  intro a0 a1 k
  have ih0 := spec_l30Net.mono_l k
  unfold spec_l30Net.f
  repeat' first | (with_reducible first | exact ih0 _ _ _ _ _ | exact spec_l30Rd_one.mono _ _ _ _ | exact spec_l30Rd_pick.mono _ _ _ _ | exact LeO.refl _ | exact LeO.none _ | refine LeO.ite ?_ ?_ | refine LeO.bind ?_ (fun _ => ?_)) | exact ih0 _ _ _ _ _ | exact spec_l30Rd_one.mono _ _ _ _ | exact spec_l30Rd_pick.mono _ _ _ _ | exact LeO.none _ | refine LeO.ite ?_ ?_ | refine LeO.bind ?_ (fun _ => ?_)
def spec_l30Net.T5 : Bool × List (List Nat × List Nat) := (true, [([], []), ([], []), ([1], [1]), ([0, 2], [0, 2]), ([], []), ([], []), ([5], [5]), ([4, 6, 3], [4, 6]), ([], []), ([], []), ([9, 7], [9]), ([10], [10]), ([8, 11, 10], [8, 11]), ([], []), ([], []), ([13, 14, 12], [13, 14]), ([], []), ([16, 15], [16]), ([3, 7, 12, 15, 17], [3, 7, 12, 15, 17]), ([], []), ([19, 18, 17, 0, 1, 2, 3, 4, 5, 6, 7, 8, 9, 10, 11, 12, 13, 14, 15, 16, 17, 18, 19], [18, 19])])
def spec_l30Net.B5 : List Nat := [0, 0, 2, 7, 0, 0, 32, 127, 0, 0, 767, 1791, 4095, 0, 0, 32767, 0, 131071, 262143, 0, 1048575]
theorem spec_l30Net.tab5 : rtab .any (opsOf Try.f98 5) = spec_l30Net.T5 := by kernel_rfl
theorem spec_l30Net.bits5 : waitsOk spec_l30Net.T5.2 spec_l30Net.B5 = true := by kernel_rfl
set_option maxHeartbeats 200000000 in
set_option maxRecDepth 100000 in
theorem spec_l30Net.calls (k : Nat) (g : Nat) (s0_0 : List Int) (s0_1 : Int) (r1 : Int) (r2 : List (S37)) (r3 : Int) (w0 w : World) (hI : IsS106 w0 w g s0_0 s0_1) (hB : Below w0.heap.size w0 w) (h : spec_l30Net.f k s0_0 s0_1 = some (r1, r2, r3)) :
    Calls Try.prog 98 #[.pointer (some ⟨g, 0, none⟩)] w fun e w' => ∃ v1_ : Value, e = .returned (.agg #[.int .i64 r1, v1_]) ∧ Kd.R k37 37 w' w.heap.size (fun _ => True) v1_ r2 ∧ IsS106 w0 w' g s0_0 r3 ∧ Below w0.heap.size w0 w' ∧ KeepBut w w' g none := by
  have hu29 := Try.underlying29
  have hu37 := Try.underlying37
  have HI0 := Aside0.mk hI
  have HK := Aside0.mk (KeepBut.refl w g none)
  have HL := Aside0.mk hB.size
  clear hI
  have HW0 := Aside0.mk hB.size
  have HB := Aside0.mk hB
  clear hB
  have H : ((spec_l30Rd_pick.f k s0_0 s0_1 5).bind fun bt166 => ((spec_l30Rd_pick.f k s0_0 bt166.2 14).bind fun bt169 => (spec_l30Net.l0 k bt169.1 s0_0 bt169.2 (wrap64 (2 + bt166.1)) ([] : List (S37))))) = some (r1, r2, r3) := h
  clear h
  replace H := Option.bind_eq_some_iff.mp H
  obtain ⟨⟨t166, t167⟩, A20, H⟩ := H
  try dsimp only at H
  have A2 := Aside0.mk A20
  clear A20
  replace H := Option.bind_eq_some_iff.mp H
  obtain ⟨⟨t169, t170⟩, A30, H⟩ := H
  replace H : (spec_l30Net.l0 k t169 s0_0 t170 (wrap64 (2 + t166)) ([] : List (S37))) = some (r1, r2, r3) := H
  have A3 := Aside0.mk A30
  clear A30
  have H' := Aside0.mk H
  clear H
  go_enter Try.func98, Try.ntmps98
  go_wp2_with (first | ((with_reducible refine gate_dst (N := 2) rfl ?_); refine bx_ 2 #[.int .i64 0, .slice none 0 0] 29 ?_; intro gb165 hg w4 hbox hb; have BK165 := Aside0.mk (hbox); have GW165 := Aside0.mk (zk_ hg (nk_ HK.out)); have GE165 := Aside0.mk ((Nat.le_trans HW0.out (by rw [hg]; exact (keep_size (w := w) (g := g) (row := none) (nk_ HK.out)) : w.heap.size ≤ gb165) : w0.heap.size ≤ gb165)); have NB0_165 := Aside0.mk ((by rw [hg]; exact Nat.ne_of_lt (IsS106.lt (show IsS106 w0 _ g s0_0 s0_1 from ni106_98 HI0.out)) : g ≠ gb165)); have NB165_0 := Aside0.mk ((by rw [hg]; exact Nat.ne_of_gt (IsS106.lt (show IsS106 w0 _ g s0_0 s0_1 from ni106_98 HI0.out)) : gb165 ≠ g)); replace HI0 := Aside0.mk (IsS106.below (ni106_98 HI0.out) hb); replace HK := Aside0.mk (KeepBut.trans (nk_ HK.out) (KeepBut.of_below hb g none) (.inl rfl)); replace HB := Aside0.mk (below_step (ng106_98 HB.out) hb); clear hb hbox hg) | ((with_reducible refine gate_callee (f := 88) rfl ?_); refine gl_ (some 7) Try.func88 #[.pointer (some ⟨g, 0, none⟩), .int .i64 5] ?_; (with_reducible refine (spec_l30Rd_pick.calls k g s0_0 s0_1 5 t166 t167 w0 _ ?side1 ?side2 A2.out).mono ?_); (case side1 => repeat (first | (with_reducible first | exact HI0.out | apply IsS106.alloc | apply IsS106.drewN | apply IsS106.drew | apply IsS106.set_1 | refine IsS106.far ?_ NB0_165.out _) | exact HI0.out)); (case side2 => exact (ng106_98 HB.out)); rintro e w5 ⟨rfl, hi, hb, hk⟩; refine ⟨_, rfl, ?_⟩; replace BK165 := kk_ BK165 hk NB165_0; replace HK := Aside0.mk (KeepBut.trans (nk_ HK.out) hk (.inl rfl)); replace HB := Aside0.mk (hb); replace HI0 := Aside0.mk (hi); (try clear hb); (try clear hb2); (try clear hk); (try clear hi)) | ((with_reducible refine gate_dst (N := 3) rfl ?_); refine bx_ 3 #[.int .i64 0, .slice none 0 0] 29 ?_; intro gb168 hg w6 hbox hb; have BK168 := Aside0.mk (hbox); have GW168 := Aside0.mk (zk_ hg (nk_ HK.out)); have GE168 := Aside0.mk ((Nat.le_trans HW0.out (by rw [hg]; exact (keep_size (w := w) (g := g) (row := none) (nk_ HK.out)) : w.heap.size ≤ gb168) : w0.heap.size ≤ gb168)); have NB165_168 := Aside0.mk (nl_ BK165.out hg); have NB168_165 := Aside0.mk (nm_ BK165.out hg); have NB0_168 := Aside0.mk ((by rw [hg]; exact Nat.ne_of_lt (IsS106.lt (show IsS106 w0 _ g s0_0 t167 from ni106_98 HI0.out)) : g ≠ gb168)); have NB168_0 := Aside0.mk ((by rw [hg]; exact Nat.ne_of_gt (IsS106.lt (show IsS106 w0 _ g s0_0 t167 from ni106_98 HI0.out)) : gb168 ≠ g)); replace HI0 := Aside0.mk (IsS106.below (ni106_98 HI0.out) hb); replace BK165 := kb_ BK165 hb; replace HK := Aside0.mk (KeepBut.trans (nk_ HK.out) (KeepBut.of_below hb g none) (.inl rfl)); replace HB := Aside0.mk (below_step (ng106_98 HB.out) hb); clear hb hbox hg; have hnb7 := NB168_165.out; have hnc7 := NB165_168.out; have hnb8 := NB168_0.out; have hnc8 := NB0_168.out; obtain ⟨hcz9_0, hcz9_1, hfz9_0, hfz9_1⟩ := cz2_ BK168.out) | ((with_reducible refine gate_callee (f := 88) rfl ?_); refine gl_ (some 11) Try.func88 #[.pointer (some ⟨g, 0, none⟩), .int .i64 14] ?_; (with_reducible refine (spec_l30Rd_pick.calls k g s0_0 t167 14 t169 t170 w0 _ ?side1 ?side2 A3.out).mono ?_); (case side1 => repeat (first | (with_reducible first | exact HI0.out | apply IsS106.alloc | apply IsS106.drewN | apply IsS106.drew | apply IsS106.set_1 | refine IsS106.far ?_ NB0_165.out _ | refine IsS106.far ?_ NB0_168.out _) | exact HI0.out)); (case side2 => exact (ng106_98 HB.out)); rintro e w10 ⟨rfl, hi, hb, hk⟩; refine ⟨_, rfl, ?_⟩; replace BK165 := Aside0.mk (KeepBut.blk hk (g' := gb165) (o := .cells #[.int .i64 0, .slice none 0 0] 29 (0, 0)) (nbf_ BK165.out) NB165_0.out (by simp)); replace BK168 := Aside0.mk (KeepBut.blk hk (g' := gb168) (o := .cells #[.int .i64 (wrap64 (2 + t166)), .slice none 0 0] 29 (0, 0)) (np_ BK168.out) NB168_0.out (by simp)); replace HK := Aside0.mk (KeepBut.trans (nk_ HK.out) hk (.inl rfl)); replace HB := Aside0.mk (hb); replace HI0 := Aside0.mk (hi); (try clear hb); (try clear hb2); (try clear hk); (try clear hi)))
  go_loopg [4] k (fun kq v4 w' => ∃ (x4_1 : Int) (x1001_1 : Int) (x169001_1 : List (S37)) (u169001 : Value), v4 = .int .i64 x4_1 ∧ Aside0 (spec_l30Net.l0 kq x4_1 s0_0 x1001_1 (wrap64 (2 + t166)) x169001_1 = some (r1, r2, r3)) ∧ Aside0 (kq ≤ k) ∧ Aside0 (Kd.R k37 37 w' w.heap.size (fun _ => True) u169001 x169001_1) ∧ Aside0 (w'.heap[gb165]? = some (.cells #[.int .i64 0, (.slice none 0 0)] 29 (0, 0))) ∧ Aside0 (w'.heap[gb168]? = some (.cells #[.int .i64 (wrap64 (2 + t166)), u169001] 29 (0, 0))) ∧ Aside0 (IsS106 w0 w' g s0_0 x1001_1) ∧ Aside0 (KeepBut w w' g none) ∧ Aside0 (Below w0.heap.size w0 w'))
  case atStart => exact ⟨(t169), (t170), (([] : List (S37))), (.slice none 0 0), ns_, H', ⟨Nat.le_refl _⟩, ⟨by first | exact Kd.R_nil _ _ _ _ _ | exact Kd.N_nil _ _ _ _ _ | exact Kd.V_nil _ _ _ _ _ | exact Kd.Q_nil _ _ _ _ _ | exact Kd.S_nil _ _ _ _ _⟩, ⟨nb_ BK165.out⟩, ⟨nb_ BK168.out⟩, ⟨ni106_98 HI0.out⟩, ⟨nk_ HK.out⟩, ⟨by repeat (first | (with_reducible first | exact HB.out | apply below_alloc | apply pw_below_drewN | apply below_drew1 | refine below_set ?_ (IsS106.ge HI0.out) | refine below_set ?_ GE165.out | refine below_set ?_ GE168.out) | exact HB.out)⟩⟩
  case round =>
   clear H'
   try clear hcz9_0
   try clear hcz9_1
   try clear hfz9_0
   try clear hfz9_1
   obtain ⟨x4_1, x1001_1, x169001_1, u169001, rfl, HA, HK1, HO_169001, BK165, BK168, HI0, HK, HB⟩ := hrel
   cases gk with
   | zero => exact absurd HA.out (by simp [spec_l30Net.l0])
   | succ k1 =>
    have H := HA.out
    clear HA
    simp only [spec_l30Net.l0] at H
    by_cases c11 : x4_1 > 0
    rotate_left
    ·rw [if_neg c11] at H
     have c11b0 : decide (0 < x4_1) = false := decide_eq_false c11
     clear c11
     simp only [Option.some.injEq, Prod.mk.injEq] at H
     obtain ⟨rfl, rfl, rfl⟩ := H
     have hnb82 := NB168_165.out
     have hnc82 := NB165_168.out
     have hnb83 := NB168_0.out
     have hnc83 := NB0_168.out
     obtain ⟨hcz84_0, hcz84_1, hfz84_0, hfz84_1⟩ := cz2_ BK168.out
     have hnb85 := NB165_0.out
     have hnc85 := NB0_165.out
     obtain ⟨hcz86_0, hcz86_1, hfz86_0, hfz86_1⟩ := cz2_ BK165.out
     obtain ⟨Ao87, co87, eo87⟩ := Kd.R_slice HO_169001.out
     subst eo87
     go_wp2
     refine bodyPost_ret (results_cell_row rfl _ _ gb165 29 #[.int .i64 (wrap64 (2 + t166)), .slice Ao87 x169001_1.length co87] (0, 0) _ rfl (np_ BK165.out) Try.underlying29 rfl (by kernel_rfl)) rfl ?_
     exact ⟨_, nw_, by (with_reducible repeat (first | apply rA98 | apply rN98 | apply Kd.R_drew)); exact Kd.R_mono (rf2_ (Kd.R_types HO_169001.out BK165.out (by decide))) (fun _ hk => trivial), ni106_98 HI0.out, by repeat (first | (with_reducible first | exact HB.out | apply below_alloc | apply pw_below_drewN | apply below_drew1 | refine below_set ?_ (IsS106.ge HI0.out) | refine below_set ?_ GE165.out | refine below_set ?_ GE168.out) | exact HB.out), nk_ HK.out⟩

    rw [if_pos c11] at H
    have c11b0 : decide (0 < x4_1) = true := decide_eq_true c11
    clear c11
    replace H := Option.bind_eq_some_iff.mp H
    obtain ⟨⟨t171, t172⟩, A120, H⟩ := H
    try dsimp only at H
    have A12 := Aside0.mk A120
    clear A120
    replace H := Option.bind_eq_some_iff.mp H
    obtain ⟨⟨t173, t174⟩, A130, H⟩ := H
    try dsimp only at H
    have A13 := Aside0.mk A130
    clear A130
    replace H := Option.bind_eq_some_iff.mp H
    obtain ⟨⟨t175, t176⟩, A140, H⟩ := H
    try dsimp only at H
    have A14 := Aside0.mk A140
    clear A140
    obtain ⟨y177, hy177⟩ : ∃ y_ : List Int, y_ = (([0, 1, 2, 5, 9, t175] : List Int)) := ⟨_, rfl⟩
    replace H : ((spec_l30Rd_one.f k1 s0_0 t176 y177).bind fun bt180 => ((spec_l30Rd_one.f k1 s0_0 bt180.2 (([0, 0, 3, 8] : List Int))).bind fun bt185 => ((spec_l30Rd_pick.f k1 s0_0 bt185.2 10).bind fun bt187 => (if t171 = t173 then (if (wrap64 (2 + t166)) = 0 then (none) else (if x169001_1.length < 3518437208883 then (spec_l30Net.l0 k1 (wrap64 (x4_1 - 1)) s0_0 bt187.2 (wrap64 (2 + t166)) (x169001_1 ++ [(⟨t171, Int.tmod (wrap64 (t173 + 1)) (wrap64 (2 + t166)), bt180.1, bt185.1, bt187.1⟩ : S37)])) else (none))) else (if x169001_1.length < 3518437208883 then (spec_l30Net.l0 k1 (wrap64 (x4_1 - 1)) s0_0 bt187.2 (wrap64 (2 + t166)) (x169001_1 ++ [(⟨t171, t173, bt180.1, bt185.1, bt187.1⟩ : S37)])) else (none)))))) = some (r1, r2, r3) := by first | (rw [hy177]; with_reducible exact H) | (have H2_ := (Option.bind_some _ _).symm.trans H; rw [hy177]; with_reducible exact H2_) | (have H2_ := (Option.bind_some _ _).symm.trans H; with_reducible exact H2_) | with_reducible exact H | (rw [hy177]; exact H) | exact H
    have Ny177 := Aside0.mk hy177
    clear hy177
    replace H := Option.bind_eq_some_iff.mp H
    obtain ⟨⟨t180, t181⟩, A150, H⟩ := H
    try dsimp only at H
    have A15 := Aside0.mk A150
    clear A150
    obtain ⟨y182, hy182⟩ : ∃ y_ : List Int, y_ = (([0, 0, 3, 8] : List Int)) := ⟨_, rfl⟩
    replace H : ((spec_l30Rd_one.f k1 s0_0 t181 y182).bind fun bt185 => ((spec_l30Rd_pick.f k1 s0_0 bt185.2 10).bind fun bt187 => (if t171 = t173 then (if (wrap64 (2 + t166)) = 0 then (none) else (if x169001_1.length < 3518437208883 then (spec_l30Net.l0 k1 (wrap64 (x4_1 - 1)) s0_0 bt187.2 (wrap64 (2 + t166)) (x169001_1 ++ [(⟨t171, Int.tmod (wrap64 (t173 + 1)) (wrap64 (2 + t166)), t180, bt185.1, bt187.1⟩ : S37)])) else (none))) else (if x169001_1.length < 3518437208883 then (spec_l30Net.l0 k1 (wrap64 (x4_1 - 1)) s0_0 bt187.2 (wrap64 (2 + t166)) (x169001_1 ++ [(⟨t171, t173, t180, bt185.1, bt187.1⟩ : S37)])) else (none))))) = some (r1, r2, r3) := by first | (rw [hy182]; with_reducible exact H) | (have H2_ := (Option.bind_some _ _).symm.trans H; rw [hy182]; with_reducible exact H2_) | (have H2_ := (Option.bind_some _ _).symm.trans H; with_reducible exact H2_) | with_reducible exact H | (rw [hy182]; exact H) | exact H
    have Ny182 := Aside0.mk hy182
    clear hy182
    replace H := Option.bind_eq_some_iff.mp H
    obtain ⟨⟨t185, t186⟩, A160, H⟩ := H
    try dsimp only at H
    have A16 := Aside0.mk A160
    clear A160
    replace H := Option.bind_eq_some_iff.mp H
    obtain ⟨⟨t187, t188⟩, A170, H⟩ := H
    try dsimp only at H
    have A17 := Aside0.mk A170
    clear A170
    have H' := Aside0.mk H
    clear H
    try go_wp2
    replace HO_169001 := Aside0.mk (Kd.R_drew HO_169001.out)
    replace BK165 := Aside0.mk (blk_drew BK165.out)
    replace BK168 := Aside0.mk (blk_drew BK168.out)
    replace HI0 := Aside0.mk (IsS106.drew HI0.out)
    replace HK := Aside0.mk (keep_drew HK.out)
    replace HB := Aside0.mk (below_drew1 HB.out)
    refine start_ (n := 21) (S := fun w' => w'.cell? ⟨gb168, 0, none⟩ = some (.int .i64 (wrap64 (2 + t166))) ∧ w'.cell? ⟨gb168, 1, none⟩ = some (u169001)) (ds := []) (bm_ 21 0) (by kernel_rfl) rfl rfl ⟨ct_ BK168.out 0, ct_ BK168.out 1⟩ (fun hHeld => ?_); refine with_tabW spec_l30Net.tab5 spec_l30Net.bits5 (fun HT_ HW_ => ?_)
    generalize wr.drew = w21 at HO_169001 BK165 BK168 HI0 HK HB hHeld ⊢
    refine pu_ 0 16 (bm_ 21 1) HT_.out ?_
    refine pu_ 1 17 (bm_ 21 3) HT_.out ?_
    refine pu_ 4 20 (bm_ 21 19) HT_.out ?_
    refine pu_ 5 21 (bm_ 21 51) HT_.out ?_
    refine pu_ 8 24 (bm_ 21 307) HT_.out ?_
    refine pu_ 9 25 (bm_ 21 819) HT_.out ?_
    refine pu_ 13 29 (bm_ 21 9011) HT_.out ?_
    refine pu_ 16 32 (bm_ 21 74547) HT_.out ?_
    refine tk_ 2 18 (bm_ 21 74551) HT_.out HW_.out hHeld ?_
    refine tk_ 6 22 (bm_ 21 74615) HT_.out HW_.out hHeld ?_
    refine join_ (σ := Value × Value × Nat) 1 z98_0 (fun s_ => [(19, .int .i64 t171), (23, .int .i64 t173), (26, .int .i64 t175), (27, s_.1), (28, .int .i64 t180), (30, s_.2.1), (31, .int .i64 t185), (33, .int .i64 t187), (5, .pointer (some ⟨s_.2.2, 0, none⟩)), (34, .agg #[.int .i64 t171, .int .i64 t173, .int .i64 t180, .int .i64 t185, .int .i64 t187])]) (fun s_ w' => (w'.cell? ⟨gb168, 0, none⟩ = some (.int .i64 (wrap64 (2 + t166))) ∧ w'.cell? ⟨gb168, 1, none⟩ = some (u169001)) ∧ (Kd.R (Kd.int .i64) 3 w' w.heap.size (fun k_ => some k_ ≠ (s_.2.1 : Value).ownBlock) s_.1 y177) ∧ (Kd.R (Kd.int .i64) 3 w' w.heap.size (fun k_ => some k_ ≠ (s_.1 : Value).ownBlock) s_.2.1 y182) ∧ (Kd.R k37 37 w' w.heap.size (fun k_ => k_ ≠ s_.2.2) u169001 x169001_1) ∧ (w'.heap[gb165]? = some (.cells #[.int .i64 0, .slice none 0 0] 29 (0, 0))) ∧ (w'.heap[gb168]? = some (.cells #[.int .i64 (wrap64 (2 + t166)), u169001] 29 (0, 0))) ∧ (w'.heap[s_.2.2]? = some (.cells #[.int .i64 0, .int .i64 0, .int .i64 0, .int .i64 0, .int .i64 0] 37 (0, 0))) ∧ (w.heap.size ≤ s_.2.2) ∧ (w0.heap.size ≤ s_.2.2) ∧ (g ≠ s_.2.2) ∧ (s_.2.2 ≠ g) ∧ (gb165 ≠ s_.2.2) ∧ (s_.2.2 ≠ gb165) ∧ (gb168 ≠ s_.2.2) ∧ (s_.2.2 ≠ gb168) ∧ (IsS106 w0 w' g s0_0 t188) ∧ (KeepBut w w' g none) ∧ (Below w0.heap.size w0 w')) ?_ ?_
    ·skip
     rintro ⟨v178, v183, gb189⟩ w35 ⟨hS_, h0_, h1_, h2_, h3_, h4_, h5_, h6_, h7_, h8_, h9_, h10_, h11_, h12_, h13_, h14_, h15_, h16_⟩
     have HO179 : Aside0 (Kd.R (Kd.int .i64) 3 w35 w.heap.size (fun k_ => some k_ ≠ (v183 : Value).ownBlock) v178 y177) := ⟨h0_⟩
     have HO184 : Aside0 (Kd.R (Kd.int .i64) 3 w35 w.heap.size (fun k_ => some k_ ≠ (v178 : Value).ownBlock) v183 y182) := ⟨h1_⟩
     replace HO_169001 : Aside0 (Kd.R k37 37 w35 w.heap.size (fun k_ => k_ ≠ gb189) u169001 x169001_1) := ⟨h2_⟩
     replace BK165 : Aside0 (w35.heap[gb165]? = some (.cells #[.int .i64 0, .slice none 0 0] 29 (0, 0))) := ⟨h3_⟩
     replace BK168 : Aside0 (w35.heap[gb168]? = some (.cells #[.int .i64 (wrap64 (2 + t166)), u169001] 29 (0, 0))) := ⟨h4_⟩
     have BK189 : Aside0 (w35.heap[gb189]? = some (.cells #[.int .i64 0, .int .i64 0, .int .i64 0, .int .i64 0, .int .i64 0] 37 (0, 0))) := ⟨h5_⟩
     have GW189 : Aside0 (w.heap.size ≤ gb189) := ⟨h6_⟩
     have GE189 : Aside0 (w0.heap.size ≤ gb189) := ⟨h7_⟩
     have NB0_189 : Aside0 (g ≠ gb189) := ⟨h8_⟩
     have NB189_0 : Aside0 (gb189 ≠ g) := ⟨h9_⟩
     have NB165_189 : Aside0 (gb165 ≠ gb189) := ⟨h10_⟩
     have NB189_165 : Aside0 (gb189 ≠ gb165) := ⟨h11_⟩
     have NB168_189 : Aside0 (gb168 ≠ gb189) := ⟨h12_⟩
     have NB189_168 : Aside0 (gb189 ≠ gb168) := ⟨h13_⟩
     replace HI0 : Aside0 (IsS106 w0 w35 g s0_0 t188) := ⟨h14_⟩
     replace HK : Aside0 (KeepBut w w35 g none) := ⟨h15_⟩
     replace HB : Aside0 (Below w0.heap.size w0 w35) := ⟨h16_⟩
     clear h0_ h1_ h2_ h3_ h4_ h5_ h6_ h7_ h8_ h9_ h10_ h11_ h12_ h13_ h14_ h15_ h16_
     have hHeld : w35.cell? ⟨gb168, 0, none⟩ = some (.int .i64 (wrap64 (2 + t166))) ∧ w35.cell? ⟨gb168, 1, none⟩ = some (u169001) := hS_
     refine nm2_ ?_
     refine one_ (i := 20) (N := none) (bm_ 21 2097151) rfl rfl (one_of HT_.out (by kernel_rfl)) (by decide) (fun K hK => ?_)
     have hs36 : w35.cell? ⟨gb189, 0, none⟩ = some (.int .i64 0) := ct_ BK189.out 0
     have hfs36 := blk_frozen BK189.out 0
     have hns36_0 := NB165_189.out
     have hns36_1 := NB168_189.out
     have hms36_0 := NB189_165.out
     have hms36_1 := NB189_168.out
     have hs37 : w35.cell? ⟨gb189, 1, none⟩ = some (.int .i64 0) := ct_ BK189.out 1
     have hfs37 := blk_frozen BK189.out 1
     have hns37_0 := NB165_189.out
     have hns37_1 := NB168_189.out
     have hms37_0 := NB189_165.out
     have hms37_1 := NB189_168.out
     have hs38 : w35.cell? ⟨gb189, 2, none⟩ = some (.int .i64 0) := ct_ BK189.out 2
     have hfs38 := blk_frozen BK189.out 2
     have hns38_0 := NB165_189.out
     have hns38_1 := NB168_189.out
     have hms38_0 := NB189_165.out
     have hms38_1 := NB189_168.out
     have hs39 : w35.cell? ⟨gb189, 3, none⟩ = some (.int .i64 0) := ct_ BK189.out 3
     have hfs39 := blk_frozen BK189.out 3
     have hns39_0 := NB165_189.out
     have hns39_1 := NB168_189.out
     have hms39_0 := NB189_165.out
     have hms39_1 := NB189_168.out
     have hs40 : w35.cell? ⟨gb189, 4, none⟩ = some (.int .i64 0) := ct_ BK189.out 4
     have hfs40 := blk_frozen BK189.out 4
     have hns40_0 := NB165_189.out
     have hns40_1 := NB168_189.out
     have hms40_0 := NB189_165.out
     have hms40_1 := NB189_168.out
     refine skip_ (w1 := ?_) (by rfl) rfl ?_ ?_
     rotate_left
     ·go_simp
      rfl
     refine hK.out _ _ ⟨((cell_far (p := ⟨gb189, _, none⟩) NB168_189.out _).trans (((cell_far (p := ⟨gb189, _, none⟩) NB168_189.out _).trans (((cell_far (p := ⟨gb189, _, none⟩) NB168_189.out _).trans (((cell_far (p := ⟨gb189, _, none⟩) NB168_189.out _).trans (((cell_far (p := ⟨gb189, _, none⟩) NB168_189.out _).trans (hHeld.1)))))))))), ((cell_far (p := ⟨gb189, _, none⟩) NB168_189.out _).trans (((cell_far (p := ⟨gb189, _, none⟩) NB168_189.out _).trans (((cell_far (p := ⟨gb189, _, none⟩) NB168_189.out _).trans (((cell_far (p := ⟨gb189, _, none⟩) NB168_189.out _).trans (((cell_far (p := ⟨gb189, _, none⟩) NB168_189.out _).trans (hHeld.2))))))))))⟩ (fun hHeld => ?_)
     clear hK K
     refine done_ (done_of HT_.out (by kernel_rfl)) ?_
     have H := H'.out
     clear H'
     by_cases c18 : t171 = t173
     rotate_left
     ·rw [if_neg c18] at H
      have c18b0 : (t171 == t173) = false := beq_eq_false_iff_ne.mpr c18
      have c18b1 : (t171 != t173) = true := bne_iff_ne.mpr c18
      by_cases c51 : x169001_1.length < 3518437208883
      rotate_left
      ·rw [if_neg c51] at H
       exact absurd H (by simp)
      rw [if_pos c51] at H
      have LMc51 := Aside0.mk c51
      clear c51
      obtain ⟨y193, hy193⟩ : ∃ y_ : List (S37), y_ = (x169001_1 ++ [(⟨t171, t173, t180, t185, t187⟩ : S37)]) := ⟨_, rfl⟩
      replace H : (spec_l30Net.l0 k1 (wrap64 (x4_1 - 1)) s0_0 t188 (wrap64 (2 + t166)) y193) = some (r1, r2, r3) := by first | (rw [hy193]; with_reducible exact H) | (have H2_ := (Option.bind_some _ _).symm.trans H; rw [hy193]; with_reducible exact H2_) | (have H2_ := (Option.bind_some _ _).symm.trans H; with_reducible exact H2_) | with_reducible exact H | (rw [hy193]; exact H) | exact H
      have Ny193 := Aside0.mk hy193
      clear hy193
      have H' := Aside0.mk H
      clear H
      have hnb72 := NB189_165.out
      have hnc72 := NB165_189.out
      have hnb73 := NB189_168.out
      have hnc73 := NB168_189.out
      have hnb74 := NB189_0.out
      have hnc74 := NB0_189.out
      obtain ⟨hcz75_0, hcz75_1, hcz75_2, hcz75_3, hcz75_4, hfz75_0, hfz75_1, hfz75_2, hfz75_3, hfz75_4⟩ := cz5_ BK189.out
      have hnb76 := NB168_165.out
      have hnc76 := NB165_168.out
      have hnb77 := NB168_0.out
      have hnc77 := NB0_168.out
      obtain ⟨hcz78_0, hcz78_1, hfz78_0, hfz78_1⟩ := cz2_ BK168.out
      try go_wp2_with (first | ((with_reducible refine gate_builtin (b := .append) (xs := #[.tmp 48, .tmp 50]) rfl ?_); at_builtin; refine Kd.R_append k37 w.heap.size rfl (.tmp 48) (.tmp 50) 27 37 (.agg #[(.int .i64 0), (.int .i64 0), (.int .i64 0), (.int .i64 0), (.int .i64 0)]) 40 rfl Try.underlying27 info37 rfl (by decide) (by omega) u169001 x169001_1 (⟨t171, t173, t180, t185, t187⟩ : S37) [.int .i64 t171, .int .i64 t173, .int .i64 t180, .int .i64 t185, .int .i64 t187] (fun k_ => k_ ≠ gb189) (fun _ => False) rfl (by first | (go_simp; done) | (go_simp; rfl)) ?aP (fun _ hk => hk.elim) ?aF ?aO (Below.refl _ _) ?aS ?aL ?_; (case aP => exact k37_mkM _ _ _ (⟨t171, t173, t180, t185, t187⟩ : S37)); (case aF => exact (fun k_ hk => Kd.freshB (g := gb189) (o := .cells #[.int .i64 t171, .int .i64 t173, .int .i64 t180, .int .i64 t185, .int .i64 t187] 37 (0, 0)) (np_ BK189.out) k_ hk)); (case aO => exact (by (with_reducible repeat (first | apply rA98 | apply rN98 | apply Kd.R_drew)); exact Kd.R_mono (rf5_ (Kd.R_mono HO_169001.out (fun k_ hk => (⟨hk, hk⟩ : _ ∧ k_ ≠ gb189)))) (fun _ hk => hk.1))); (case aS => exact (keep_size (w := w) (g := g) (row := none) (nk_ HK.out))); (case aL => have := LMc51.out; omega); intro v194 w79 ho hb hg hat; rw [← Ny193.out] at ho; have HO195 := Aside0.mk (ho); replace BK165 := Aside0.mk (blk_grown (g := gb165) (o := .cells #[.int .i64 0, .slice none 0 0] 29 (0, 0)) (nbf_ BK165.out) hg (Kd.R_ne HO_169001.out BK165.out (by decide))); replace BK168 := Aside0.mk (blk_grown (g := gb168) (o := .cells #[.int .i64 (wrap64 (2 + t166)), u169001] 29 (0, 0)) (nbf_ BK168.out) hg (Kd.R_ne HO_169001.out BK168.out (by decide))); replace HI0 := Aside0.mk (IsS106.grown (show IsS106 w0 _ g s0_0 t188 from ni106_98 HI0.out) hg (IsS106.own_ne HI0.out HO_169001.out (by decide))); replace HO179 := Aside0.mk (Kd.R_over' (by (with_reducible repeat (first | apply rA98 | apply rN98 | apply Kd.R_drew)); exact (Kd.R_mono (rf5_ (Kd.R_types HO179.out BK189.out (by decide))) (fun _ h_ => h_.1))) (Kd.R_typed (by (with_reducible repeat (first | apply rA98 | apply rN98 | apply Kd.R_drew)); exact (Kd.R_mono (rf5_ (Kd.R_mono HO_169001.out (fun k_ hk => (⟨hk, hk⟩ : _ ∧ k_ ≠ gb189)))) (fun _ h_ => h_.1)))) (by decide) hg); replace HO184 := Aside0.mk (Kd.R_over' (by (with_reducible repeat (first | apply rA98 | apply rN98 | apply Kd.R_drew)); exact (Kd.R_mono (rf5_ (Kd.R_types HO184.out BK189.out (by decide))) (fun _ h_ => h_.1))) (Kd.R_typed (by (with_reducible repeat (first | apply rA98 | apply rN98 | apply Kd.R_drew)); exact (Kd.R_mono (rf5_ (Kd.R_mono HO_169001.out (fun k_ hk => (⟨hk, hk⟩ : _ ∧ k_ ≠ gb189)))) (fun _ h_ => h_.1)))) (by decide) hg); replace BK189 := Aside0.mk (blk_grown (g := gb189) (o := .cells #[.int .i64 t171, .int .i64 t173, .int .i64 t180, .int .i64 t185, .int .i64 t187] 37 (0, 0)) (np_ BK189.out) hg (Kd.R_away HO_169001.out (fun _ hk => hk))); replace HB := Aside0.mk (below_weaken (ng106_98 HB.out) HL.out hb); replace HK := Aside0.mk (KeepBut.trans (nk_ HK.out) (KeepBut.of_grown hg g) (Kd.R_base2 HO_169001.out)); clear HO_169001; clear ho hb hg hat; obtain ⟨Ao80, co80, eo80⟩ := Kd.R_slice HO195.out; subst eo80; obtain ⟨hcz81_0, hcz81_1, hfz81_0, hfz81_1⟩ := cz2_ BK168.out))
      go_roundg k1
      case measure => have := HK1.out; omega
      case rel => exact ⟨(wrap64 (x4_1 - 1)), (t188), (y193), (.slice Ao80 y193.length co80), ns_, H', ⟨by have := HK1.out; omega⟩, ⟨by (with_reducible repeat (first | apply rA98 | apply rN98 | apply Kd.R_drew)); exact Kd.R_mono (Kd.R_far (p := ⟨gb168, 1, none⟩) (Kd.R_types HO195.out BK168.out (by decide)) (fun _ hk => hk.2) (.slice Ao80 y193.length co80)) (fun _ hk => trivial)⟩, ⟨np_ BK165.out⟩, ⟨np_ BK168.out⟩, ⟨ni106_98 HI0.out⟩, ⟨nk_ HK.out⟩, ⟨by repeat (first | (with_reducible first | exact HB.out | apply below_alloc | apply pw_below_drewN | apply below_drew1 | refine below_set ?_ (IsS106.ge HI0.out) | refine below_set ?_ GE165.out | refine below_set ?_ GE168.out | refine below_set ?_ GE189.out) | exact HB.out)⟩⟩
     rw [if_pos c18] at H
     have c18b0 : (t171 == t173) = true := beq_iff_eq.mpr c18
     have c18b1 : (t171 != t173) = false := bne_eq_false_iff_eq.mpr c18
     clear c18
     by_cases c19 : (wrap64 (2 + t166)) = 0
     ·rw [if_pos c19] at H
      exact absurd H (by simp)
     rw [if_neg c19] at H
     have c19b0 : ((wrap64 (2 + t166)) == 0) = false := beq_eq_false_iff_ne.mpr c19
     have c19b1 : ((wrap64 (2 + t166)) != 0) = true := bne_iff_ne.mpr c19
     by_cases c20 : x169001_1.length < 3518437208883
     rotate_left
     ·rw [if_neg c20] at H
      exact absurd H (by simp)
     rw [if_pos c20] at H
     have LMc20 := Aside0.mk c20
     clear c20
     obtain ⟨y190, hy190⟩ : ∃ y_ : List (S37), y_ = (x169001_1 ++ [(⟨t171, Int.tmod (wrap64 (t173 + 1)) (wrap64 (2 + t166)), t180, t185, t187⟩ : S37)]) := ⟨_, rfl⟩
     replace H : (spec_l30Net.l0 k1 (wrap64 (x4_1 - 1)) s0_0 t188 (wrap64 (2 + t166)) y190) = some (r1, r2, r3) := by first | (rw [hy190]; with_reducible exact H) | (have H2_ := (Option.bind_some _ _).symm.trans H; rw [hy190]; with_reducible exact H2_) | (have H2_ := (Option.bind_some _ _).symm.trans H; with_reducible exact H2_) | with_reducible exact H | (rw [hy190]; exact H) | exact H
     have Ny190 := Aside0.mk hy190
     clear hy190
     have H' := Aside0.mk H
     clear H
     have hnb41 := NB189_165.out
     have hnc41 := NB165_189.out
     have hnb42 := NB189_168.out
     have hnc42 := NB168_189.out
     have hnb43 := NB189_0.out
     have hnc43 := NB0_189.out
     obtain ⟨hcz44_0, hcz44_1, hcz44_2, hcz44_3, hcz44_4, hfz44_0, hfz44_1, hfz44_2, hfz44_3, hfz44_4⟩ := cz5_ BK189.out
     have hnb45 := NB168_165.out
     have hnc45 := NB165_168.out
     have hnb46 := NB168_0.out
     have hnc46 := NB0_168.out
     obtain ⟨hcz47_0, hcz47_1, hfz47_0, hfz47_1⟩ := cz2_ BK168.out
     try go_wp2_with (first | ((with_reducible refine gate_builtin (b := .append) (xs := #[.tmp 48, .tmp 50]) rfl ?_); at_builtin; refine Kd.R_append k37 w.heap.size rfl (.tmp 48) (.tmp 50) 27 37 (.agg #[(.int .i64 0), (.int .i64 0), (.int .i64 0), (.int .i64 0), (.int .i64 0)]) 40 rfl Try.underlying27 info37 rfl (by decide) (by omega) u169001 x169001_1 (⟨t171, Int.tmod (wrap64 (t173 + 1)) (wrap64 (2 + t166)), t180, t185, t187⟩ : S37) [.int .i64 t171, .int .i64 (Int.tmod (wrap64 (t173 + 1)) (wrap64 (2 + t166))), .int .i64 t180, .int .i64 t185, .int .i64 t187] (fun k_ => k_ ≠ gb189) (fun _ => False) rfl (by first | (go_simp; done) | (go_simp; rfl)) ?aP (fun _ hk => hk.elim) ?aF ?aO (Below.refl _ _) ?aS ?aL ?_; (case aP => exact k37_mkM _ _ _ (⟨t171, Int.tmod (wrap64 (t173 + 1)) (wrap64 (2 + t166)), t180, t185, t187⟩ : S37)); (case aF => exact (fun k_ hk => Kd.freshB (g := gb189) (o := .cells #[.int .i64 t171, .int .i64 (Int.tmod (wrap64 (t173 + 1)) (wrap64 (2 + t166))), .int .i64 t180, .int .i64 t185, .int .i64 t187] 37 (0, 0)) (np_ BK189.out) k_ hk)); (case aO => exact (by (with_reducible repeat (first | apply rA98 | apply rN98 | apply Kd.R_drew)); exact Kd.R_mono (Kd.R_far (p := ⟨gb189, 1, none⟩) (rf5_ (Kd.R_mono HO_169001.out (fun k_ hk => (⟨hk, hk⟩ : _ ∧ k_ ≠ gb189)))) (fun _ hk => hk.2) (.int .i64 (Int.tmod (wrap64 (t173 + 1)) (wrap64 (2 + t166))))) (fun _ hk => hk.1))); (case aS => exact (keep_size (w := w) (g := g) (row := none) (nk_ HK.out))); (case aL => have := LMc20.out; omega); intro v191 w48 ho hb hg hat; rw [← Ny190.out] at ho; have HO192 := Aside0.mk (ho); replace BK165 := Aside0.mk (blk_grown (g := gb165) (o := .cells #[.int .i64 0, .slice none 0 0] 29 (0, 0)) (nbf_ BK165.out) hg (Kd.R_ne HO_169001.out BK165.out (by decide))); replace BK168 := Aside0.mk (blk_grown (g := gb168) (o := .cells #[.int .i64 (wrap64 (2 + t166)), u169001] 29 (0, 0)) (nbf_ BK168.out) hg (Kd.R_ne HO_169001.out BK168.out (by decide))); replace HI0 := Aside0.mk (IsS106.grown (show IsS106 w0 _ g s0_0 t188 from ni106_98 HI0.out) hg (IsS106.own_ne HI0.out HO_169001.out (by decide))); replace HO179 := Aside0.mk (Kd.R_over' (by (with_reducible repeat (first | apply rA98 | apply rN98 | apply Kd.R_drew)); exact (Kd.R_mono (Kd.R_far (p := ⟨gb189, 1, none⟩) (rf5_ (Kd.R_types HO179.out BK189.out (by decide))) (fun _ hk => hk.2) (.int .i64 (Int.tmod (wrap64 (t173 + 1)) (wrap64 (2 + t166))))) (fun _ h_ => h_.1))) (Kd.R_typed (by (with_reducible repeat (first | apply rA98 | apply rN98 | apply Kd.R_drew)); exact (Kd.R_mono (Kd.R_far (p := ⟨gb189, 1, none⟩) (rf5_ (Kd.R_mono HO_169001.out (fun k_ hk => (⟨hk, hk⟩ : _ ∧ k_ ≠ gb189)))) (fun _ hk => hk.2) (.int .i64 (Int.tmod (wrap64 (t173 + 1)) (wrap64 (2 + t166))))) (fun _ h_ => h_.1)))) (by decide) hg); replace HO184 := Aside0.mk (Kd.R_over' (by (with_reducible repeat (first | apply rA98 | apply rN98 | apply Kd.R_drew)); exact (Kd.R_mono (Kd.R_far (p := ⟨gb189, 1, none⟩) (rf5_ (Kd.R_types HO184.out BK189.out (by decide))) (fun _ hk => hk.2) (.int .i64 (Int.tmod (wrap64 (t173 + 1)) (wrap64 (2 + t166))))) (fun _ h_ => h_.1))) (Kd.R_typed (by (with_reducible repeat (first | apply rA98 | apply rN98 | apply Kd.R_drew)); exact (Kd.R_mono (Kd.R_far (p := ⟨gb189, 1, none⟩) (rf5_ (Kd.R_mono HO_169001.out (fun k_ hk => (⟨hk, hk⟩ : _ ∧ k_ ≠ gb189)))) (fun _ hk => hk.2) (.int .i64 (Int.tmod (wrap64 (t173 + 1)) (wrap64 (2 + t166))))) (fun _ h_ => h_.1)))) (by decide) hg); replace BK189 := Aside0.mk (blk_grown (g := gb189) (o := .cells #[.int .i64 t171, .int .i64 (Int.tmod (wrap64 (t173 + 1)) (wrap64 (2 + t166))), .int .i64 t180, .int .i64 t185, .int .i64 t187] 37 (0, 0)) (np_ BK189.out) hg (Kd.R_away HO_169001.out (fun _ hk => hk))); replace HB := Aside0.mk (below_weaken (ng106_98 HB.out) HL.out hb); replace HK := Aside0.mk (KeepBut.trans (nk_ HK.out) (KeepBut.of_grown hg g) (Kd.R_base2 HO_169001.out)); clear HO_169001; clear ho hb hg hat; obtain ⟨Ao49, co49, eo49⟩ := Kd.R_slice HO192.out; subst eo49; obtain ⟨hcz50_0, hcz50_1, hfz50_0, hfz50_1⟩ := cz2_ BK168.out))
     go_roundg k1
     case measure => have := HK1.out; omega
     case rel => exact ⟨(wrap64 (x4_1 - 1)), (t188), (y190), (.slice Ao49 y190.length co49), ns_, H', ⟨by have := HK1.out; omega⟩, ⟨by (with_reducible repeat (first | apply rA98 | apply rN98 | apply Kd.R_drew)); exact Kd.R_mono (Kd.R_far (p := ⟨gb168, 1, none⟩) (Kd.R_types HO192.out BK168.out (by decide)) (fun _ hk => hk.2) (.slice Ao49 y190.length co49)) (fun _ hk => trivial)⟩, ⟨np_ BK165.out⟩, ⟨np_ BK168.out⟩, ⟨ni106_98 HI0.out⟩, ⟨nk_ HK.out⟩, ⟨by repeat (first | (with_reducible first | exact HB.out | apply below_alloc | apply pw_below_drewN | apply below_drew1 | refine below_set ?_ (IsS106.ge HI0.out) | refine below_set ?_ GE165.out | refine below_set ?_ GE168.out | refine below_set ?_ GE189.out) | exact HB.out)⟩⟩
    intro hJ3_7_10_11_12_14_15_17_19
    refine join_ (σ := Value × Value) 2 z98_1 (fun s_ => [(19, .int .i64 t171), (23, .int .i64 t173), (26, .int .i64 t175), (27, s_.1), (28, .int .i64 t180), (30, s_.2), (31, .int .i64 t185), (33, .int .i64 t187), (34, .agg #[.int .i64 t171, .int .i64 t173, .int .i64 t180, .int .i64 t185, .int .i64 t187])]) (fun s_ w' => (w'.cell? ⟨gb168, 0, none⟩ = some (.int .i64 (wrap64 (2 + t166))) ∧ w'.cell? ⟨gb168, 1, none⟩ = some (u169001)) ∧ (Kd.R (Kd.int .i64) 3 w' w.heap.size (fun k_ => some k_ ≠ (s_.2 : Value).ownBlock) s_.1 y177) ∧ (Kd.R (Kd.int .i64) 3 w' w.heap.size (fun k_ => some k_ ≠ (s_.1 : Value).ownBlock) s_.2 y182) ∧ (Kd.R k37 37 w' w.heap.size (fun _ => True) u169001 x169001_1) ∧ (w'.heap[gb165]? = some (.cells #[.int .i64 0, .slice none 0 0] 29 (0, 0))) ∧ (w'.heap[gb168]? = some (.cells #[.int .i64 (wrap64 (2 + t166)), u169001] 29 (0, 0))) ∧ (IsS106 w0 w' g s0_0 t188) ∧ (KeepBut w w' g none) ∧ (Below w0.heap.size w0 w')) ?_ ?_
    ·skip
     rintro ⟨v178, v183⟩ w34 ⟨hS_, h0_, h1_, h2_, h3_, h4_, h5_, h6_, h7_⟩
     have HO179 : Aside0 (Kd.R (Kd.int .i64) 3 w34 w.heap.size (fun k_ => some k_ ≠ (v183 : Value).ownBlock) v178 y177) := ⟨h0_⟩
     have HO184 : Aside0 (Kd.R (Kd.int .i64) 3 w34 w.heap.size (fun k_ => some k_ ≠ (v178 : Value).ownBlock) v183 y182) := ⟨h1_⟩
     replace HO_169001 : Aside0 (Kd.R k37 37 w34 w.heap.size (fun _ => True) u169001 x169001_1) := ⟨h2_⟩
     replace BK165 : Aside0 (w34.heap[gb165]? = some (.cells #[.int .i64 0, .slice none 0 0] 29 (0, 0))) := ⟨h3_⟩
     replace BK168 : Aside0 (w34.heap[gb168]? = some (.cells #[.int .i64 (wrap64 (2 + t166)), u169001] 29 (0, 0))) := ⟨h4_⟩
     replace HI0 : Aside0 (IsS106 w0 w34 g s0_0 t188) := ⟨h5_⟩
     replace HK : Aside0 (KeepBut w w34 g none) := ⟨h6_⟩
     replace HB : Aside0 (Below w0.heap.size w0 w34) := ⟨h7_⟩
     clear h0_ h1_ h2_ h3_ h4_ h5_ h6_ h7_
     have hHeld : w34.cell? ⟨gb168, 0, none⟩ = some (.int .i64 (wrap64 (2 + t166))) ∧ w34.cell? ⟨gb168, 1, none⟩ = some (u169001) := hS_
     refine nm2_ ?_
     refine one_ (i := 19) (N := some 5) z98_0 rfl rfl (one_of HT_.out (by kernel_rfl)) (by decide) (fun K hK => ?_)
     refine bs_ 5 #[.int .i64 0, .int .i64 0, .int .i64 0, .int .i64 0, .int .i64 0] 37 ?_
     intro gb189 hg w35 hbox hb
     replace HO_169001 := Aside0.mk (rB98 (Kd.R_elderB HO_169001.out gb189 (Nat.le_of_eq hg.symm)) hb)
     replace HO179 := Aside0.mk (rB98 HO179.out hb)
     replace HO184 := Aside0.mk (rB98 HO184.out hb)
     replace HB := Aside0.mk (below_step HB.out hb)
     have BK189 := Aside0.mk (hbox)
     have GW189 := Aside0.mk ((by rw [hg]; exact (keep_size (w := w) (g := g) (row := none) HK.out) : w.heap.size ≤ gb189))
     have GE189 := Aside0.mk ((Nat.le_trans HW0.out (by rw [hg]; exact (keep_size (w := w) (g := g) (row := none) HK.out) : w.heap.size ≤ gb189) : w0.heap.size ≤ gb189))
     replace HK := Aside0.mk (KeepBut.trans HK.out (KeepBut.of_below hb g none) (.inl rfl))
     have NB165_189 := Aside0.mk (nl_ BK165.out hg)
     have NB189_165 := Aside0.mk (nm_ BK165.out hg)
     replace BK165 := kb_ BK165 hb
     have NB168_189 := Aside0.mk (nl_ BK168.out hg)
     have NB189_168 := Aside0.mk (nm_ BK168.out hg)
     replace BK168 := kb_ BK168 hb
     have NB0_189 := Aside0.mk ((by rw [hg]; exact Nat.ne_of_lt (IsS106.lt (show IsS106 w0 _ g s0_0 t188 from ni106_98 HI0.out)) : g ≠ gb189))
     have NB189_0 := Aside0.mk ((by rw [hg]; exact Nat.ne_of_gt (IsS106.lt (show IsS106 w0 _ g s0_0 t188 from ni106_98 HI0.out)) : gb189 ≠ g))
     replace HI0 := Aside0.mk (IsS106.below HI0.out hb)
     clear hb hbox hg
     refine hK.out _ _ ⟨ct_ BK168.out 0, ct_ BK168.out 1⟩ (fun hHeld => ?_)
     clear hK K
     refine nm1_ (some 5) ?_
     exact norm_ nn_ (hJ3_7_10_11_12_14_15_17_19 (v178, v183, gb189) _ ⟨hHeld, HO179.out, HO184.out, (by (with_reducible repeat (first | apply rA98 | apply rN98 | apply Kd.R_drew)); exact Kd.R_mono HO_169001.out (fun _ hk => by first | exact hk.2 | trivial | simp_all)), BK165.out, BK168.out, BK189.out, GW189.out, GE189.out, NB0_189.out, NB189_0.out, NB165_189.out, NB189_165.out, NB168_189.out, NB189_168.out, HI0.out, HK.out, HB.out⟩)
    intro hJ3_7_10_11_12_14_15_17
    refine join_ (σ := Value × Value × Nat) 3 z98_2 (fun s_ => [(19, .int .i64 t171), (23, .int .i64 t173), (26, .int .i64 t175), (27, s_.1), (28, .int .i64 t180), (30, s_.2.1), (31, .int .i64 t185), (5, .pointer (some ⟨s_.2.2, 0, none⟩))]) (fun s_ w' => (w'.cell? ⟨gb168, 0, none⟩ = some (.int .i64 (wrap64 (2 + t166))) ∧ w'.cell? ⟨gb168, 1, none⟩ = some (u169001)) ∧ (Kd.R (Kd.int .i64) 3 w' w.heap.size (fun k_ => some k_ ≠ (s_.2.1 : Value).ownBlock) s_.1 y177) ∧ (Kd.R (Kd.int .i64) 3 w' w.heap.size (fun k_ => some k_ ≠ (s_.1 : Value).ownBlock) s_.2.1 y182) ∧ (Kd.R k37 37 w' w.heap.size (fun k_ => k_ ≠ s_.2.2) u169001 x169001_1) ∧ (w'.heap[gb165]? = some (.cells #[.int .i64 0, .slice none 0 0] 29 (0, 0))) ∧ (w'.heap[gb168]? = some (.cells #[.int .i64 (wrap64 (2 + t166)), u169001] 29 (0, 0))) ∧ (w'.heap[s_.2.2]? = some (.cells #[.int .i64 0, .int .i64 0, .int .i64 0, .int .i64 0, .int .i64 0] 37 (0, 0))) ∧ (w.heap.size ≤ s_.2.2) ∧ (w0.heap.size ≤ s_.2.2) ∧ (g ≠ s_.2.2) ∧ (s_.2.2 ≠ g) ∧ (gb165 ≠ s_.2.2) ∧ (s_.2.2 ≠ gb165) ∧ (gb168 ≠ s_.2.2) ∧ (s_.2.2 ≠ gb168) ∧ (IsS106 w0 w' g s0_0 t186) ∧ (KeepBut w w' g none) ∧ (Below w0.heap.size w0 w')) ?_ ?_
    ·skip
     rintro ⟨v178, v183, gb189⟩ w34 ⟨hS_, h0_, h1_, h2_, h3_, h4_, h5_, h6_, h7_, h8_, h9_, h10_, h11_, h12_, h13_, h14_, h15_, h16_⟩
     have HO179 : Aside0 (Kd.R (Kd.int .i64) 3 w34 w.heap.size (fun k_ => some k_ ≠ (v183 : Value).ownBlock) v178 y177) := ⟨h0_⟩
     have HO184 : Aside0 (Kd.R (Kd.int .i64) 3 w34 w.heap.size (fun k_ => some k_ ≠ (v178 : Value).ownBlock) v183 y182) := ⟨h1_⟩
     replace HO_169001 : Aside0 (Kd.R k37 37 w34 w.heap.size (fun k_ => k_ ≠ gb189) u169001 x169001_1) := ⟨h2_⟩
     replace BK165 : Aside0 (w34.heap[gb165]? = some (.cells #[.int .i64 0, .slice none 0 0] 29 (0, 0))) := ⟨h3_⟩
     replace BK168 : Aside0 (w34.heap[gb168]? = some (.cells #[.int .i64 (wrap64 (2 + t166)), u169001] 29 (0, 0))) := ⟨h4_⟩
     have BK189 : Aside0 (w34.heap[gb189]? = some (.cells #[.int .i64 0, .int .i64 0, .int .i64 0, .int .i64 0, .int .i64 0] 37 (0, 0))) := ⟨h5_⟩
     have GW189 : Aside0 (w.heap.size ≤ gb189) := ⟨h6_⟩
     have GE189 : Aside0 (w0.heap.size ≤ gb189) := ⟨h7_⟩
     have NB0_189 : Aside0 (g ≠ gb189) := ⟨h8_⟩
     have NB189_0 : Aside0 (gb189 ≠ g) := ⟨h9_⟩
     have NB165_189 : Aside0 (gb165 ≠ gb189) := ⟨h10_⟩
     have NB189_165 : Aside0 (gb189 ≠ gb165) := ⟨h11_⟩
     have NB168_189 : Aside0 (gb168 ≠ gb189) := ⟨h12_⟩
     have NB189_168 : Aside0 (gb189 ≠ gb168) := ⟨h13_⟩
     replace HI0 : Aside0 (IsS106 w0 w34 g s0_0 t186) := ⟨h14_⟩
     replace HK : Aside0 (KeepBut w w34 g none) := ⟨h15_⟩
     replace HB : Aside0 (Below w0.heap.size w0 w34) := ⟨h16_⟩
     clear h0_ h1_ h2_ h3_ h4_ h5_ h6_ h7_ h8_ h9_ h10_ h11_ h12_ h13_ h14_ h15_ h16_
     have hHeld : w34.cell? ⟨gb168, 0, none⟩ = some (.int .i64 (wrap64 (2 + t166))) ∧ w34.cell? ⟨gb168, 1, none⟩ = some (u169001) := hS_
     refine nm2_ ?_
     refine one_ (i := 17) (N := some 33) (bm_ 21 786431) rfl rfl (one_of HT_.out (by kernel_rfl)) (by decide) (fun K hK => ?_)
     refine go_ Try.func88 #[.pointer (some ⟨g, 0, none⟩), .int .i64 10] ?_
     with_reducible refine (spec_l30Rd_pick.calls k1 g s0_0 t186 10 t187 t188 w0 _ ?side1 ?side2 A17.out).mono ?_
     (case side1 => exact HI0.out)
     (case side2 => exact HB.out)
     rintro e w35 ⟨rfl, hi, hb, hk⟩
     refine ⟨_, rfl, ?_⟩
     replace HO_169001 := Aside0.mk (Kd.R_mono (Kd.R_keep (IsS106.apart (show IsS106 w0 _ g s0_0 t186 from ni106_98 HI0.out) HO_169001.out (by decide)) hk (fun _ h => h.2)) (fun _ h => h.1))
     replace BK165 := kk_ BK165 hk NB165_0
     replace BK168 := kk_ BK168 hk NB168_0
     replace HO179 := Aside0.mk (Kd.R_mono (Kd.R_keep (IsS106.apart (show IsS106 w0 _ g s0_0 t186 from ni106_98 HI0.out) HO179.out (by decide)) hk (fun _ h => h.2)) (fun _ h => h.1))
     replace HO184 := Aside0.mk (Kd.R_mono (Kd.R_keep (IsS106.apart (show IsS106 w0 _ g s0_0 t186 from ni106_98 HI0.out) HO184.out (by decide)) hk (fun _ h => h.2)) (fun _ h => h.1))
     replace BK189 := kk_ BK189 hk NB189_0
     replace HK := Aside0.mk (KeepBut.trans HK.out hk (.inl rfl))
     replace HB := Aside0.mk (hb)
     replace HI0 := Aside0.mk (hi)
     (try clear hb)
     (try clear hb2)
     (try clear hk)
     (try clear hi)
     refine hK.out _ _ ⟨ct_ BK168.out 0, ct_ BK168.out 1⟩ (fun hHeld => ?_)
     clear hK K
     refine nm1_ (some 33) ?_
     refine pu_ 18 34 z98_0 HT_.out ?_
     exact norm_ nn_ (hJ3_7_10_11_12_14_15_17_19 (v178, v183, gb189) _ ⟨hHeld, HO179.out, HO184.out, HO_169001.out, BK165.out, BK168.out, BK189.out, GW189.out, GE189.out, NB0_189.out, NB189_0.out, NB165_189.out, NB189_165.out, NB168_189.out, NB189_168.out, HI0.out, HK.out, HB.out⟩)
    intro hJ3_7_10_11_12_14_15_19
    refine join_ (σ := Value × Value) 4 z98_3 (fun s_ => [(19, .int .i64 t171), (23, .int .i64 t173), (26, .int .i64 t175), (27, s_.1), (28, .int .i64 t180), (30, s_.2), (31, .int .i64 t185)]) (fun s_ w' => (w'.cell? ⟨gb168, 0, none⟩ = some (.int .i64 (wrap64 (2 + t166))) ∧ w'.cell? ⟨gb168, 1, none⟩ = some (u169001)) ∧ (Kd.R (Kd.int .i64) 3 w' w.heap.size (fun k_ => some k_ ≠ (s_.2 : Value).ownBlock) s_.1 y177) ∧ (Kd.R (Kd.int .i64) 3 w' w.heap.size (fun k_ => some k_ ≠ (s_.1 : Value).ownBlock) s_.2 y182) ∧ (Kd.R k37 37 w' w.heap.size (fun _ => True) u169001 x169001_1) ∧ (w'.heap[gb165]? = some (.cells #[.int .i64 0, .slice none 0 0] 29 (0, 0))) ∧ (w'.heap[gb168]? = some (.cells #[.int .i64 (wrap64 (2 + t166)), u169001] 29 (0, 0))) ∧ (IsS106 w0 w' g s0_0 t186) ∧ (KeepBut w w' g none) ∧ (Below w0.heap.size w0 w')) ?_ ?_
    ·skip
     rintro ⟨v178, v183⟩ w33 ⟨hS_, h0_, h1_, h2_, h3_, h4_, h5_, h6_, h7_⟩
     have HO179 : Aside0 (Kd.R (Kd.int .i64) 3 w33 w.heap.size (fun k_ => some k_ ≠ (v183 : Value).ownBlock) v178 y177) := ⟨h0_⟩
     have HO184 : Aside0 (Kd.R (Kd.int .i64) 3 w33 w.heap.size (fun k_ => some k_ ≠ (v178 : Value).ownBlock) v183 y182) := ⟨h1_⟩
     replace HO_169001 : Aside0 (Kd.R k37 37 w33 w.heap.size (fun _ => True) u169001 x169001_1) := ⟨h2_⟩
     replace BK165 : Aside0 (w33.heap[gb165]? = some (.cells #[.int .i64 0, .slice none 0 0] 29 (0, 0))) := ⟨h3_⟩
     replace BK168 : Aside0 (w33.heap[gb168]? = some (.cells #[.int .i64 (wrap64 (2 + t166)), u169001] 29 (0, 0))) := ⟨h4_⟩
     replace HI0 : Aside0 (IsS106 w0 w33 g s0_0 t186) := ⟨h5_⟩
     replace HK : Aside0 (KeepBut w w33 g none) := ⟨h6_⟩
     replace HB : Aside0 (Below w0.heap.size w0 w33) := ⟨h7_⟩
     clear h0_ h1_ h2_ h3_ h4_ h5_ h6_ h7_
     have hHeld : w33.cell? ⟨gb168, 0, none⟩ = some (.int .i64 (wrap64 (2 + t166))) ∧ w33.cell? ⟨gb168, 1, none⟩ = some (u169001) := hS_
     refine nm2_ ?_
     refine two_ (i := 17) (j := 19) (Ni := some 33) (Nj := some 5) (bm_ 21 262143) z98_2 rfl rfl rfl rfl (two_of HT_.out (by kernel_rfl)) (by decide) (by decide) (fun K hK => ?_) (fun K hK => ?_)
     ·skip
      refine go_ Try.func88 #[.pointer (some ⟨g, 0, none⟩), .int .i64 10] ?_
      with_reducible refine (spec_l30Rd_pick.calls k1 g s0_0 t186 10 t187 t188 w0 _ ?side1 ?side2 A17.out).mono ?_
      (case side1 => exact HI0.out)
      (case side2 => exact HB.out)
      rintro e w34 ⟨rfl, hi, hb, hk⟩
      refine ⟨_, rfl, ?_⟩
      replace HO_169001 := Aside0.mk (Kd.R_mono (Kd.R_keep (IsS106.apart (show IsS106 w0 _ g s0_0 t186 from ni106_98 HI0.out) HO_169001.out (by decide)) hk (fun _ h => h.2)) (fun _ h => h.1))
      replace BK165 := kk_ BK165 hk NB165_0
      replace BK168 := kk_ BK168 hk NB168_0
      replace HO179 := Aside0.mk (Kd.R_mono (Kd.R_keep (IsS106.apart (show IsS106 w0 _ g s0_0 t186 from ni106_98 HI0.out) HO179.out (by decide)) hk (fun _ h => h.2)) (fun _ h => h.1))
      replace HO184 := Aside0.mk (Kd.R_mono (Kd.R_keep (IsS106.apart (show IsS106 w0 _ g s0_0 t186 from ni106_98 HI0.out) HO184.out (by decide)) hk (fun _ h => h.2)) (fun _ h => h.1))
      replace HK := Aside0.mk (KeepBut.trans HK.out hk (.inl rfl))
      replace HB := Aside0.mk (hb)
      replace HI0 := Aside0.mk (hi)
      (try clear hb)
      (try clear hb2)
      (try clear hk)
      (try clear hi)
      refine hK.out _ _ ⟨ct_ BK168.out 0, ct_ BK168.out 1⟩ (fun hHeld => ?_)
      clear hK K
      refine nm1_ (some 33) ?_
      refine pu_ 18 34 z98_1 HT_.out ?_
      exact norm_ nn_ (hJ3_7_10_11_12_14_15_17 (v178, v183) _ ⟨hHeld, HO179.out, HO184.out, HO_169001.out, BK165.out, BK168.out, HI0.out, HK.out, HB.out⟩)
     ·skip
      refine bs_ 5 #[.int .i64 0, .int .i64 0, .int .i64 0, .int .i64 0, .int .i64 0] 37 ?_
      intro gb189 hg w34 hbox hb
      replace HO_169001 := Aside0.mk (rB98 (Kd.R_elderB HO_169001.out gb189 (Nat.le_of_eq hg.symm)) hb)
      replace HO179 := Aside0.mk (rB98 HO179.out hb)
      replace HO184 := Aside0.mk (rB98 HO184.out hb)
      replace HB := Aside0.mk (below_step HB.out hb)
      have BK189 := Aside0.mk (hbox)
      have GW189 := Aside0.mk ((by rw [hg]; exact (keep_size (w := w) (g := g) (row := none) HK.out) : w.heap.size ≤ gb189))
      have GE189 := Aside0.mk ((Nat.le_trans HW0.out (by rw [hg]; exact (keep_size (w := w) (g := g) (row := none) HK.out) : w.heap.size ≤ gb189) : w0.heap.size ≤ gb189))
      replace HK := Aside0.mk (KeepBut.trans HK.out (KeepBut.of_below hb g none) (.inl rfl))
      have NB165_189 := Aside0.mk (nl_ BK165.out hg)
      have NB189_165 := Aside0.mk (nm_ BK165.out hg)
      replace BK165 := kb_ BK165 hb
      have NB168_189 := Aside0.mk (nl_ BK168.out hg)
      have NB189_168 := Aside0.mk (nm_ BK168.out hg)
      replace BK168 := kb_ BK168 hb
      have NB0_189 := Aside0.mk ((by rw [hg]; exact Nat.ne_of_lt (IsS106.lt (show IsS106 w0 _ g s0_0 t186 from ni106_98 HI0.out)) : g ≠ gb189))
      have NB189_0 := Aside0.mk ((by rw [hg]; exact Nat.ne_of_gt (IsS106.lt (show IsS106 w0 _ g s0_0 t186 from ni106_98 HI0.out)) : gb189 ≠ g))
      replace HI0 := Aside0.mk (IsS106.below HI0.out hb)
      clear hb hbox hg
      refine hK.out _ _ ⟨ct_ BK168.out 0, ct_ BK168.out 1⟩ (fun hHeld => ?_)
      clear hK K
      refine nm1_ (some 5) ?_
      exact norm_ nn_ (hJ3_7_10_11_12_14_15_19 (v178, v183, gb189) _ ⟨hHeld, HO179.out, HO184.out, (by (with_reducible repeat (first | apply rA98 | apply rN98 | apply Kd.R_drew)); exact Kd.R_mono HO_169001.out (fun _ hk => by first | exact hk.2 | trivial | simp_all)), BK165.out, BK168.out, BK189.out, GW189.out, GE189.out, NB0_189.out, NB189_0.out, NB165_189.out, NB189_165.out, NB168_189.out, NB189_168.out, HI0.out, HK.out, HB.out⟩)
    intro hJ3_7_10_11_12_14_15
    refine join_ (σ := Value × Value × Nat) 4 z98_4 (fun s_ => [(19, .int .i64 t171), (23, .int .i64 t173), (26, .int .i64 t175), (27, s_.1), (28, .int .i64 t180), (30, s_.2.1), (5, .pointer (some ⟨s_.2.2, 0, none⟩))]) (fun s_ w' => (w'.cell? ⟨gb168, 0, none⟩ = some (.int .i64 (wrap64 (2 + t166))) ∧ w'.cell? ⟨gb168, 1, none⟩ = some (u169001)) ∧ (Kd.R (Kd.int .i64) 3 w' w.heap.size (fun k_ => some k_ ≠ (s_.2.1 : Value).ownBlock) s_.1 y177) ∧ (Kd.R (Kd.int .i64) 3 w' w.heap.size (fun k_ => some k_ ≠ (s_.1 : Value).ownBlock) s_.2.1 y182) ∧ (Kd.R k37 37 w' w.heap.size (fun k_ => k_ ≠ s_.2.2) u169001 x169001_1) ∧ (w'.heap[gb165]? = some (.cells #[.int .i64 0, .slice none 0 0] 29 (0, 0))) ∧ (w'.heap[gb168]? = some (.cells #[.int .i64 (wrap64 (2 + t166)), u169001] 29 (0, 0))) ∧ (w'.heap[s_.2.2]? = some (.cells #[.int .i64 0, .int .i64 0, .int .i64 0, .int .i64 0, .int .i64 0] 37 (0, 0))) ∧ (w.heap.size ≤ s_.2.2) ∧ (w0.heap.size ≤ s_.2.2) ∧ (g ≠ s_.2.2) ∧ (s_.2.2 ≠ g) ∧ (gb165 ≠ s_.2.2) ∧ (s_.2.2 ≠ gb165) ∧ (gb168 ≠ s_.2.2) ∧ (s_.2.2 ≠ gb168) ∧ (IsS106 w0 w' g s0_0 t181) ∧ (KeepBut w w' g none) ∧ (Below w0.heap.size w0 w')) ?_ ?_
    ·skip
     rintro ⟨v178, v183, gb189⟩ w32 ⟨hS_, h0_, h1_, h2_, h3_, h4_, h5_, h6_, h7_, h8_, h9_, h10_, h11_, h12_, h13_, h14_, h15_, h16_⟩
     have HO179 : Aside0 (Kd.R (Kd.int .i64) 3 w32 w.heap.size (fun k_ => some k_ ≠ (v183 : Value).ownBlock) v178 y177) := ⟨h0_⟩
     have HO184 : Aside0 (Kd.R (Kd.int .i64) 3 w32 w.heap.size (fun k_ => some k_ ≠ (v178 : Value).ownBlock) v183 y182) := ⟨h1_⟩
     replace HO_169001 : Aside0 (Kd.R k37 37 w32 w.heap.size (fun k_ => k_ ≠ gb189) u169001 x169001_1) := ⟨h2_⟩
     replace BK165 : Aside0 (w32.heap[gb165]? = some (.cells #[.int .i64 0, .slice none 0 0] 29 (0, 0))) := ⟨h3_⟩
     replace BK168 : Aside0 (w32.heap[gb168]? = some (.cells #[.int .i64 (wrap64 (2 + t166)), u169001] 29 (0, 0))) := ⟨h4_⟩
     have BK189 : Aside0 (w32.heap[gb189]? = some (.cells #[.int .i64 0, .int .i64 0, .int .i64 0, .int .i64 0, .int .i64 0] 37 (0, 0))) := ⟨h5_⟩
     have GW189 : Aside0 (w.heap.size ≤ gb189) := ⟨h6_⟩
     have GE189 : Aside0 (w0.heap.size ≤ gb189) := ⟨h7_⟩
     have NB0_189 : Aside0 (g ≠ gb189) := ⟨h8_⟩
     have NB189_0 : Aside0 (gb189 ≠ g) := ⟨h9_⟩
     have NB165_189 : Aside0 (gb165 ≠ gb189) := ⟨h10_⟩
     have NB189_165 : Aside0 (gb189 ≠ gb165) := ⟨h11_⟩
     have NB168_189 : Aside0 (gb168 ≠ gb189) := ⟨h12_⟩
     have NB189_168 : Aside0 (gb189 ≠ gb168) := ⟨h13_⟩
     replace HI0 : Aside0 (IsS106 w0 w32 g s0_0 t181) := ⟨h14_⟩
     replace HK : Aside0 (KeepBut w w32 g none) := ⟨h15_⟩
     replace HB : Aside0 (Below w0.heap.size w0 w32) := ⟨h16_⟩
     clear h0_ h1_ h2_ h3_ h4_ h5_ h6_ h7_ h8_ h9_ h10_ h11_ h12_ h13_ h14_ h15_ h16_
     have hHeld : w32.cell? ⟨gb168, 0, none⟩ = some (.int .i64 (wrap64 (2 + t166))) ∧ w32.cell? ⟨gb168, 1, none⟩ = some (u169001) := hS_
     obtain ⟨Ao33, co33, eo33⟩ := Kd.R_slice HO184.out
     (first | subst eo33 | (injection eo33 with f1_ f2_ f3_; have f4_ := f1_.symm; have f5_ := f3_.symm; clear f1_ f2_ f3_; subst f4_; subst f5_))
     refine nm2_ ?_
     refine one_ (i := 15) (N := some 31) z98_2 rfl rfl (one_of HT_.out (by kernel_rfl)) (by decide) (fun K hK => ?_)
     refine go_ Try.func99 #[.pointer (some ⟨g, 0, none⟩), .slice Ao33 y182.length co33] ?_
     with_reducible refine (spec_l30Rd_one.calls k1 g s0_0 t181 _ _ y182 t185 t186 w0 _ ?side1 ?side2 ?side3 ?side4 ?side5 A16.out).mono ?_
     (case side1 => exact HI0.out)
     (case side2 => exact HB.out)
     (case side3 => exact nc_ (Kd.R_reads' HO184.out).2.2)
     (case side4 => exact (Kd.R_reads' HO184.out).2.1)
     (case side5 => exact far_slice (IsS106.own_ne HI0.out HO184.out (by decide)))
     rintro e w34 ⟨rfl, hi, hb, hk⟩
     refine ⟨_, rfl, ?_⟩
     replace HO_169001 := Aside0.mk (Kd.R_mono (Kd.R_keep (IsS106.apart (show IsS106 w0 _ g s0_0 t181 from ni106_98 HI0.out) HO_169001.out (by decide)) hk (fun _ h => h.2)) (fun _ h => h.1))
     replace BK165 := kk_ BK165 hk NB165_0
     replace BK168 := kk_ BK168 hk NB168_0
     replace HO179 := Aside0.mk (Kd.R_mono (Kd.R_keep (IsS106.apart (show IsS106 w0 _ g s0_0 t181 from ni106_98 HI0.out) HO179.out (by decide)) hk (fun _ h => h.2)) (fun _ h => h.1))
     replace HO184 := Aside0.mk (Kd.R_mono (Kd.R_keep (IsS106.apart (show IsS106 w0 _ g s0_0 t181 from ni106_98 HI0.out) HO184.out (by decide)) hk (fun _ h => h.2)) (fun _ h => h.1))
     replace BK189 := kk_ BK189 hk NB189_0
     replace HK := Aside0.mk (KeepBut.trans HK.out hk (.inl rfl))
     replace HB := Aside0.mk (hb)
     replace HI0 := Aside0.mk (hi)
     (try clear hb)
     (try clear hb2)
     (try clear hk)
     (try clear hi)
     refine hK.out _ _ ⟨ct_ BK168.out 0, ct_ BK168.out 1⟩ (fun hHeld => ?_)
     clear hK K
     refine nm1_ (some 31) ?_
     exact norm_ nn_ (hJ3_7_10_11_12_14_15_19 (v178, .slice Ao33 y182.length co33, gb189) _ ⟨hHeld, HO179.out, HO184.out, HO_169001.out, BK165.out, BK168.out, BK189.out, GW189.out, GE189.out, NB0_189.out, NB189_0.out, NB165_189.out, NB189_165.out, NB168_189.out, NB189_168.out, HI0.out, HK.out, HB.out⟩)
    intro hJ3_7_10_11_12_14_19
    refine join_ (σ := Value × Value) 5 z98_5 (fun s_ => [(19, .int .i64 t171), (23, .int .i64 t173), (26, .int .i64 t175), (27, s_.1), (28, .int .i64 t180), (30, s_.2)]) (fun s_ w' => (w'.cell? ⟨gb168, 0, none⟩ = some (.int .i64 (wrap64 (2 + t166))) ∧ w'.cell? ⟨gb168, 1, none⟩ = some (u169001)) ∧ (Kd.R (Kd.int .i64) 3 w' w.heap.size (fun k_ => some k_ ≠ (s_.2 : Value).ownBlock) s_.1 y177) ∧ (Kd.R (Kd.int .i64) 3 w' w.heap.size (fun k_ => some k_ ≠ (s_.1 : Value).ownBlock) s_.2 y182) ∧ (Kd.R k37 37 w' w.heap.size (fun _ => True) u169001 x169001_1) ∧ (w'.heap[gb165]? = some (.cells #[.int .i64 0, .slice none 0 0] 29 (0, 0))) ∧ (w'.heap[gb168]? = some (.cells #[.int .i64 (wrap64 (2 + t166)), u169001] 29 (0, 0))) ∧ (IsS106 w0 w' g s0_0 t181) ∧ (KeepBut w w' g none) ∧ (Below w0.heap.size w0 w')) ?_ ?_
    ·skip
     rintro ⟨v178, v183⟩ w31 ⟨hS_, h0_, h1_, h2_, h3_, h4_, h5_, h6_, h7_⟩
     have HO179 : Aside0 (Kd.R (Kd.int .i64) 3 w31 w.heap.size (fun k_ => some k_ ≠ (v183 : Value).ownBlock) v178 y177) := ⟨h0_⟩
     have HO184 : Aside0 (Kd.R (Kd.int .i64) 3 w31 w.heap.size (fun k_ => some k_ ≠ (v178 : Value).ownBlock) v183 y182) := ⟨h1_⟩
     replace HO_169001 : Aside0 (Kd.R k37 37 w31 w.heap.size (fun _ => True) u169001 x169001_1) := ⟨h2_⟩
     replace BK165 : Aside0 (w31.heap[gb165]? = some (.cells #[.int .i64 0, .slice none 0 0] 29 (0, 0))) := ⟨h3_⟩
     replace BK168 : Aside0 (w31.heap[gb168]? = some (.cells #[.int .i64 (wrap64 (2 + t166)), u169001] 29 (0, 0))) := ⟨h4_⟩
     replace HI0 : Aside0 (IsS106 w0 w31 g s0_0 t181) := ⟨h5_⟩
     replace HK : Aside0 (KeepBut w w31 g none) := ⟨h6_⟩
     replace HB : Aside0 (Below w0.heap.size w0 w31) := ⟨h7_⟩
     clear h0_ h1_ h2_ h3_ h4_ h5_ h6_ h7_
     have hHeld : w31.cell? ⟨gb168, 0, none⟩ = some (.int .i64 (wrap64 (2 + t166))) ∧ w31.cell? ⟨gb168, 1, none⟩ = some (u169001) := hS_
     obtain ⟨Ao32, co32, eo32⟩ := Kd.R_slice HO184.out
     (first | subst eo32 | (injection eo32 with f1_ f2_ f3_; have f4_ := f1_.symm; have f5_ := f3_.symm; clear f1_ f2_ f3_; subst f4_; subst f5_))
     refine nm2_ ?_
     refine two_ (i := 15) (j := 19) (Ni := some 31) (Nj := some 5) z98_3 z98_4 rfl rfl rfl rfl (two_of HT_.out (by kernel_rfl)) (by decide) (by decide) (fun K hK => ?_) (fun K hK => ?_)
     ·skip
      refine go_ Try.func99 #[.pointer (some ⟨g, 0, none⟩), .slice Ao32 y182.length co32] ?_
      with_reducible refine (spec_l30Rd_one.calls k1 g s0_0 t181 _ _ y182 t185 t186 w0 _ ?side1 ?side2 ?side3 ?side4 ?side5 A16.out).mono ?_
      (case side1 => exact HI0.out)
      (case side2 => exact HB.out)
      (case side3 => exact nc_ (Kd.R_reads' HO184.out).2.2)
      (case side4 => exact (Kd.R_reads' HO184.out).2.1)
      (case side5 => exact far_slice (IsS106.own_ne HI0.out HO184.out (by decide)))
      rintro e w33 ⟨rfl, hi, hb, hk⟩
      refine ⟨_, rfl, ?_⟩
      replace HO_169001 := Aside0.mk (Kd.R_mono (Kd.R_keep (IsS106.apart (show IsS106 w0 _ g s0_0 t181 from ni106_98 HI0.out) HO_169001.out (by decide)) hk (fun _ h => h.2)) (fun _ h => h.1))
      replace BK165 := kk_ BK165 hk NB165_0
      replace BK168 := kk_ BK168 hk NB168_0
      replace HO179 := Aside0.mk (Kd.R_mono (Kd.R_keep (IsS106.apart (show IsS106 w0 _ g s0_0 t181 from ni106_98 HI0.out) HO179.out (by decide)) hk (fun _ h => h.2)) (fun _ h => h.1))
      replace HO184 := Aside0.mk (Kd.R_mono (Kd.R_keep (IsS106.apart (show IsS106 w0 _ g s0_0 t181 from ni106_98 HI0.out) HO184.out (by decide)) hk (fun _ h => h.2)) (fun _ h => h.1))
      replace HK := Aside0.mk (KeepBut.trans HK.out hk (.inl rfl))
      replace HB := Aside0.mk (hb)
      replace HI0 := Aside0.mk (hi)
      (try clear hb)
      (try clear hb2)
      (try clear hk)
      (try clear hi)
      refine hK.out _ _ ⟨ct_ BK168.out 0, ct_ BK168.out 1⟩ (fun hHeld => ?_)
      clear hK K
      refine nm1_ (some 31) ?_
      exact norm_ nn_ (hJ3_7_10_11_12_14_15 (v178, .slice Ao32 y182.length co32) _ ⟨hHeld, HO179.out, HO184.out, HO_169001.out, BK165.out, BK168.out, HI0.out, HK.out, HB.out⟩)
     ·skip
      refine bs_ 5 #[.int .i64 0, .int .i64 0, .int .i64 0, .int .i64 0, .int .i64 0] 37 ?_
      intro gb189 hg w32 hbox hb
      replace HO_169001 := Aside0.mk (rB98 (Kd.R_elderB HO_169001.out gb189 (Nat.le_of_eq hg.symm)) hb)
      replace HO179 := Aside0.mk (rB98 HO179.out hb)
      replace HO184 := Aside0.mk (rB98 HO184.out hb)
      replace HB := Aside0.mk (below_step HB.out hb)
      have BK189 := Aside0.mk (hbox)
      have GW189 := Aside0.mk ((by rw [hg]; exact (keep_size (w := w) (g := g) (row := none) HK.out) : w.heap.size ≤ gb189))
      have GE189 := Aside0.mk ((Nat.le_trans HW0.out (by rw [hg]; exact (keep_size (w := w) (g := g) (row := none) HK.out) : w.heap.size ≤ gb189) : w0.heap.size ≤ gb189))
      replace HK := Aside0.mk (KeepBut.trans HK.out (KeepBut.of_below hb g none) (.inl rfl))
      have NB165_189 := Aside0.mk (nl_ BK165.out hg)
      have NB189_165 := Aside0.mk (nm_ BK165.out hg)
      replace BK165 := kb_ BK165 hb
      have NB168_189 := Aside0.mk (nl_ BK168.out hg)
      have NB189_168 := Aside0.mk (nm_ BK168.out hg)
      replace BK168 := kb_ BK168 hb
      have NB0_189 := Aside0.mk ((by rw [hg]; exact Nat.ne_of_lt (IsS106.lt (show IsS106 w0 _ g s0_0 t181 from ni106_98 HI0.out)) : g ≠ gb189))
      have NB189_0 := Aside0.mk ((by rw [hg]; exact Nat.ne_of_gt (IsS106.lt (show IsS106 w0 _ g s0_0 t181 from ni106_98 HI0.out)) : gb189 ≠ g))
      replace HI0 := Aside0.mk (IsS106.below HI0.out hb)
      clear hb hbox hg
      refine hK.out _ _ ⟨ct_ BK168.out 0, ct_ BK168.out 1⟩ (fun hHeld => ?_)
      clear hK K
      refine nm1_ (some 5) ?_
      exact norm_ nn_ (hJ3_7_10_11_12_14_19 (v178, (.slice Ao32 y182.length co32), gb189) _ ⟨hHeld, HO179.out, HO184.out, (by (with_reducible repeat (first | apply rA98 | apply rN98 | apply Kd.R_drew)); exact Kd.R_mono HO_169001.out (fun _ hk => by first | exact hk.2 | trivial | simp_all)), BK165.out, BK168.out, BK189.out, GW189.out, GE189.out, NB0_189.out, NB189_0.out, NB165_189.out, NB189_165.out, NB168_189.out, NB189_168.out, HI0.out, HK.out, HB.out⟩)
    intro hJ3_7_10_11_12_14
    refine join_ (σ := Value × Nat) 5 z98_6 (fun s_ => [(19, .int .i64 t171), (23, .int .i64 t173), (26, .int .i64 t175), (27, s_.1), (28, .int .i64 t180), (5, .pointer (some ⟨s_.2, 0, none⟩))]) (fun s_ w' => (w'.cell? ⟨gb168, 0, none⟩ = some (.int .i64 (wrap64 (2 + t166))) ∧ w'.cell? ⟨gb168, 1, none⟩ = some (u169001)) ∧ (Kd.R (Kd.int .i64) 3 w' w.heap.size (fun _ => True) s_.1 y177) ∧ (Kd.R k37 37 w' w.heap.size (fun k_ => k_ ≠ s_.2) u169001 x169001_1) ∧ (w'.heap[gb165]? = some (.cells #[.int .i64 0, .slice none 0 0] 29 (0, 0))) ∧ (w'.heap[gb168]? = some (.cells #[.int .i64 (wrap64 (2 + t166)), u169001] 29 (0, 0))) ∧ (w'.heap[s_.2]? = some (.cells #[.int .i64 0, .int .i64 0, .int .i64 0, .int .i64 0, .int .i64 0] 37 (0, 0))) ∧ (w.heap.size ≤ s_.2) ∧ (w0.heap.size ≤ s_.2) ∧ (g ≠ s_.2) ∧ (s_.2 ≠ g) ∧ (gb165 ≠ s_.2) ∧ (s_.2 ≠ gb165) ∧ (gb168 ≠ s_.2) ∧ (s_.2 ≠ gb168) ∧ (IsS106 w0 w' g s0_0 t181) ∧ (KeepBut w w' g none) ∧ (Below w0.heap.size w0 w')) ?_ ?_
    ·skip
     rintro ⟨v178, gb189⟩ w30 ⟨hS_, h0_, h1_, h2_, h3_, h4_, h5_, h6_, h7_, h8_, h9_, h10_, h11_, h12_, h13_, h14_, h15_⟩
     have HO179 : Aside0 (Kd.R (Kd.int .i64) 3 w30 w.heap.size (fun _ => True) v178 y177) := ⟨h0_⟩
     replace HO_169001 : Aside0 (Kd.R k37 37 w30 w.heap.size (fun k_ => k_ ≠ gb189) u169001 x169001_1) := ⟨h1_⟩
     replace BK165 : Aside0 (w30.heap[gb165]? = some (.cells #[.int .i64 0, .slice none 0 0] 29 (0, 0))) := ⟨h2_⟩
     replace BK168 : Aside0 (w30.heap[gb168]? = some (.cells #[.int .i64 (wrap64 (2 + t166)), u169001] 29 (0, 0))) := ⟨h3_⟩
     have BK189 : Aside0 (w30.heap[gb189]? = some (.cells #[.int .i64 0, .int .i64 0, .int .i64 0, .int .i64 0, .int .i64 0] 37 (0, 0))) := ⟨h4_⟩
     have GW189 : Aside0 (w.heap.size ≤ gb189) := ⟨h5_⟩
     have GE189 : Aside0 (w0.heap.size ≤ gb189) := ⟨h6_⟩
     have NB0_189 : Aside0 (g ≠ gb189) := ⟨h7_⟩
     have NB189_0 : Aside0 (gb189 ≠ g) := ⟨h8_⟩
     have NB165_189 : Aside0 (gb165 ≠ gb189) := ⟨h9_⟩
     have NB189_165 : Aside0 (gb189 ≠ gb165) := ⟨h10_⟩
     have NB168_189 : Aside0 (gb168 ≠ gb189) := ⟨h11_⟩
     have NB189_168 : Aside0 (gb189 ≠ gb168) := ⟨h12_⟩
     replace HI0 : Aside0 (IsS106 w0 w30 g s0_0 t181) := ⟨h13_⟩
     replace HK : Aside0 (KeepBut w w30 g none) := ⟨h14_⟩
     replace HB : Aside0 (Below w0.heap.size w0 w30) := ⟨h15_⟩
     clear h0_ h1_ h2_ h3_ h4_ h5_ h6_ h7_ h8_ h9_ h10_ h11_ h12_ h13_ h14_ h15_
     have hHeld : w30.cell? ⟨gb168, 0, none⟩ = some (.int .i64 (wrap64 (2 + t166))) ∧ w30.cell? ⟨gb168, 1, none⟩ = some (u169001) := hS_
     refine nm2_ ?_
     refine one_ (i := 14) (N := some 30) z98_4 rfl rfl (one_of HT_.out (by kernel_rfl)) (by decide) (fun K hK => ?_)
     refine ls_ 30 3 [0, 0, 3, 8] [.int .i64 0, .int .i64 0, .int .i64 3, .int .i64 8] ?_
     intro v183 w31 ho32 hb hg_ hnew_
     clear hg_ hnew_
     (first | rw [← Ny182.out] at ho32 | (simp only [Int.reduceToNat] at ho32; rw [← Ny182.out] at ho32))
     replace HO_169001 := Aside0.mk (rB98 HO_169001.out hb)
     have HO184 := Aside0.mk (Kd.R_lower (Kd.R_new' ho32 (Kd.R_lt HO179.out)) (keep_size (w := w) (g := g) (row := none) HK.out))
     replace HO179 := Aside0.mk (Kd.R_elder' HO179.out (Kd.R_base ho32) hb)
     replace BK165 := kb_ BK165 hb
     replace BK168 := kb_ BK168 hb
     replace HI0 := Aside0.mk (IsS106.below HI0.out hb)
     replace BK189 := kb_ BK189 hb
     replace HK := Aside0.mk (KeepBut.trans HK.out (KeepBut.of_below hb g none) (.inl rfl))
     replace HB := Aside0.mk (below_step HB.out hb)
     clear hb ho32
     refine hK.out _ _ ⟨ct_ BK168.out 0, ct_ BK168.out 1⟩ (fun hHeld => ?_)
     clear hK K
     refine nm1_ (some 30) ?_
     exact norm_ nn_ (hJ3_7_10_11_12_14_19 (v178, v183, gb189) _ ⟨hHeld, (by (with_reducible repeat (first | apply rA98 | apply rN98 | apply Kd.R_drew)); exact Kd.R_mono HO179.out (fun _ hk => by first | exact hk.2 | trivial | simp_all)), (by (with_reducible repeat (first | apply rA98 | apply rN98 | apply Kd.R_drew)); exact Kd.R_mono HO184.out (fun _ hk => by first | exact hk.2 | trivial | simp_all)), HO_169001.out, BK165.out, BK168.out, BK189.out, GW189.out, GE189.out, NB0_189.out, NB189_0.out, NB165_189.out, NB189_165.out, NB168_189.out, NB189_168.out, HI0.out, HK.out, HB.out⟩)
    intro hJ3_7_10_11_12_19
    refine join_ (σ := Value × Value × Nat) 5 z98_7 (fun s_ => [(19, .int .i64 t171), (23, .int .i64 t173), (26, .int .i64 t175), (27, s_.1), (30, s_.2.1), (5, .pointer (some ⟨s_.2.2, 0, none⟩))]) (fun s_ w' => (w'.cell? ⟨gb168, 0, none⟩ = some (.int .i64 (wrap64 (2 + t166))) ∧ w'.cell? ⟨gb168, 1, none⟩ = some (u169001)) ∧ (Kd.R (Kd.int .i64) 3 w' w.heap.size (fun k_ => some k_ ≠ (s_.2.1 : Value).ownBlock) s_.1 y177) ∧ (Kd.R (Kd.int .i64) 3 w' w.heap.size (fun k_ => some k_ ≠ (s_.1 : Value).ownBlock) s_.2.1 y182) ∧ (Kd.R k37 37 w' w.heap.size (fun k_ => k_ ≠ s_.2.2) u169001 x169001_1) ∧ (w'.heap[gb165]? = some (.cells #[.int .i64 0, .slice none 0 0] 29 (0, 0))) ∧ (w'.heap[gb168]? = some (.cells #[.int .i64 (wrap64 (2 + t166)), u169001] 29 (0, 0))) ∧ (w'.heap[s_.2.2]? = some (.cells #[.int .i64 0, .int .i64 0, .int .i64 0, .int .i64 0, .int .i64 0] 37 (0, 0))) ∧ (w.heap.size ≤ s_.2.2) ∧ (w0.heap.size ≤ s_.2.2) ∧ (g ≠ s_.2.2) ∧ (s_.2.2 ≠ g) ∧ (gb165 ≠ s_.2.2) ∧ (s_.2.2 ≠ gb165) ∧ (gb168 ≠ s_.2.2) ∧ (s_.2.2 ≠ gb168) ∧ (IsS106 w0 w' g s0_0 t176) ∧ (KeepBut w w' g none) ∧ (Below w0.heap.size w0 w')) ?_ ?_
    ·skip
     rintro ⟨v178, v183, gb189⟩ w30 ⟨hS_, h0_, h1_, h2_, h3_, h4_, h5_, h6_, h7_, h8_, h9_, h10_, h11_, h12_, h13_, h14_, h15_, h16_⟩
     have HO179 : Aside0 (Kd.R (Kd.int .i64) 3 w30 w.heap.size (fun k_ => some k_ ≠ (v183 : Value).ownBlock) v178 y177) := ⟨h0_⟩
     have HO184 : Aside0 (Kd.R (Kd.int .i64) 3 w30 w.heap.size (fun k_ => some k_ ≠ (v178 : Value).ownBlock) v183 y182) := ⟨h1_⟩
     replace HO_169001 : Aside0 (Kd.R k37 37 w30 w.heap.size (fun k_ => k_ ≠ gb189) u169001 x169001_1) := ⟨h2_⟩
     replace BK165 : Aside0 (w30.heap[gb165]? = some (.cells #[.int .i64 0, .slice none 0 0] 29 (0, 0))) := ⟨h3_⟩
     replace BK168 : Aside0 (w30.heap[gb168]? = some (.cells #[.int .i64 (wrap64 (2 + t166)), u169001] 29 (0, 0))) := ⟨h4_⟩
     have BK189 : Aside0 (w30.heap[gb189]? = some (.cells #[.int .i64 0, .int .i64 0, .int .i64 0, .int .i64 0, .int .i64 0] 37 (0, 0))) := ⟨h5_⟩
     have GW189 : Aside0 (w.heap.size ≤ gb189) := ⟨h6_⟩
     have GE189 : Aside0 (w0.heap.size ≤ gb189) := ⟨h7_⟩
     have NB0_189 : Aside0 (g ≠ gb189) := ⟨h8_⟩
     have NB189_0 : Aside0 (gb189 ≠ g) := ⟨h9_⟩
     have NB165_189 : Aside0 (gb165 ≠ gb189) := ⟨h10_⟩
     have NB189_165 : Aside0 (gb189 ≠ gb165) := ⟨h11_⟩
     have NB168_189 : Aside0 (gb168 ≠ gb189) := ⟨h12_⟩
     have NB189_168 : Aside0 (gb189 ≠ gb168) := ⟨h13_⟩
     replace HI0 : Aside0 (IsS106 w0 w30 g s0_0 t176) := ⟨h14_⟩
     replace HK : Aside0 (KeepBut w w30 g none) := ⟨h15_⟩
     replace HB : Aside0 (Below w0.heap.size w0 w30) := ⟨h16_⟩
     clear h0_ h1_ h2_ h3_ h4_ h5_ h6_ h7_ h8_ h9_ h10_ h11_ h12_ h13_ h14_ h15_ h16_
     have hHeld : w30.cell? ⟨gb168, 0, none⟩ = some (.int .i64 (wrap64 (2 + t166))) ∧ w30.cell? ⟨gb168, 1, none⟩ = some (u169001) := hS_
     obtain ⟨Ao31, co31, eo31⟩ := Kd.R_slice HO179.out
     (first | subst eo31 | (injection eo31 with f1_ f2_ f3_; have f4_ := f1_.symm; have f5_ := f3_.symm; clear f1_ f2_ f3_; subst f4_; subst f5_))
     refine nm2_ ?_
     refine one_ (i := 12) (N := some 28) z98_4 rfl rfl (one_of HT_.out (by kernel_rfl)) (by decide) (fun K hK => ?_)
     refine go_ Try.func99 #[.pointer (some ⟨g, 0, none⟩), .slice Ao31 y177.length co31] ?_
     with_reducible refine (spec_l30Rd_one.calls k1 g s0_0 t176 _ _ y177 t180 t181 w0 _ ?side1 ?side2 ?side3 ?side4 ?side5 A15.out).mono ?_
     (case side1 => exact HI0.out)
     (case side2 => exact HB.out)
     (case side3 => exact nc_ (Kd.R_reads' HO179.out).2.2)
     (case side4 => exact (Kd.R_reads' HO179.out).2.1)
     (case side5 => exact far_slice (IsS106.own_ne HI0.out HO179.out (by decide)))
     rintro e w32 ⟨rfl, hi, hb, hk⟩
     refine ⟨_, rfl, ?_⟩
     replace HO_169001 := Aside0.mk (Kd.R_mono (Kd.R_keep (IsS106.apart (show IsS106 w0 _ g s0_0 t176 from ni106_98 HI0.out) HO_169001.out (by decide)) hk (fun _ h => h.2)) (fun _ h => h.1))
     replace BK165 := kk_ BK165 hk NB165_0
     replace BK168 := kk_ BK168 hk NB168_0
     replace HO179 := Aside0.mk (Kd.R_mono (Kd.R_keep (IsS106.apart (show IsS106 w0 _ g s0_0 t176 from ni106_98 HI0.out) HO179.out (by decide)) hk (fun _ h => h.2)) (fun _ h => h.1))
     replace HO184 := Aside0.mk (Kd.R_mono (Kd.R_keep (IsS106.apart (show IsS106 w0 _ g s0_0 t176 from ni106_98 HI0.out) HO184.out (by decide)) hk (fun _ h => h.2)) (fun _ h => h.1))
     replace BK189 := kk_ BK189 hk NB189_0
     replace HK := Aside0.mk (KeepBut.trans HK.out hk (.inl rfl))
     replace HB := Aside0.mk (hb)
     replace HI0 := Aside0.mk (hi)
     (try clear hb)
     (try clear hb2)
     (try clear hk)
     (try clear hi)
     refine hK.out _ _ ⟨ct_ BK168.out 0, ct_ BK168.out 1⟩ (fun hHeld => ?_)
     clear hK K
     refine nm1_ (some 28) ?_
     exact norm_ nn_ (hJ3_7_10_11_12_14_19 (.slice Ao31 y177.length co31, v183, gb189) _ ⟨hHeld, HO179.out, HO184.out, HO_169001.out, BK165.out, BK168.out, BK189.out, GW189.out, GE189.out, NB0_189.out, NB189_0.out, NB165_189.out, NB189_165.out, NB168_189.out, NB189_168.out, HI0.out, HK.out, HB.out⟩)
    intro hJ3_7_10_11_14_19
    refine join_ (σ := Value) 6 z98_8 (fun s_ => [(19, .int .i64 t171), (23, .int .i64 t173), (26, .int .i64 t175), (27, s_), (28, .int .i64 t180)]) (fun s_ w' => (w'.cell? ⟨gb168, 0, none⟩ = some (.int .i64 (wrap64 (2 + t166))) ∧ w'.cell? ⟨gb168, 1, none⟩ = some (u169001)) ∧ (Kd.R (Kd.int .i64) 3 w' w.heap.size (fun _ => True) s_ y177) ∧ (Kd.R k37 37 w' w.heap.size (fun _ => True) u169001 x169001_1) ∧ (w'.heap[gb165]? = some (.cells #[.int .i64 0, .slice none 0 0] 29 (0, 0))) ∧ (w'.heap[gb168]? = some (.cells #[.int .i64 (wrap64 (2 + t166)), u169001] 29 (0, 0))) ∧ (IsS106 w0 w' g s0_0 t181) ∧ (KeepBut w w' g none) ∧ (Below w0.heap.size w0 w')) ?_ ?_
    ·skip
     rintro v178 w29 ⟨hS_, h0_, h1_, h2_, h3_, h4_, h5_, h6_⟩
     have HO179 : Aside0 (Kd.R (Kd.int .i64) 3 w29 w.heap.size (fun _ => True) v178 y177) := ⟨h0_⟩
     replace HO_169001 : Aside0 (Kd.R k37 37 w29 w.heap.size (fun _ => True) u169001 x169001_1) := ⟨h1_⟩
     replace BK165 : Aside0 (w29.heap[gb165]? = some (.cells #[.int .i64 0, .slice none 0 0] 29 (0, 0))) := ⟨h2_⟩
     replace BK168 : Aside0 (w29.heap[gb168]? = some (.cells #[.int .i64 (wrap64 (2 + t166)), u169001] 29 (0, 0))) := ⟨h3_⟩
     replace HI0 : Aside0 (IsS106 w0 w29 g s0_0 t181) := ⟨h4_⟩
     replace HK : Aside0 (KeepBut w w29 g none) := ⟨h5_⟩
     replace HB : Aside0 (Below w0.heap.size w0 w29) := ⟨h6_⟩
     clear h0_ h1_ h2_ h3_ h4_ h5_ h6_
     have hHeld : w29.cell? ⟨gb168, 0, none⟩ = some (.int .i64 (wrap64 (2 + t166))) ∧ w29.cell? ⟨gb168, 1, none⟩ = some (u169001) := hS_
     refine nm2_ ?_
     refine two_ (i := 14) (j := 19) (Ni := some 30) (Nj := some 5) z98_5 z98_6 rfl rfl rfl rfl (two_of HT_.out (by kernel_rfl)) (by decide) (by decide) (fun K hK => ?_) (fun K hK => ?_)
     ·skip
      refine ls_ 30 3 [0, 0, 3, 8] [.int .i64 0, .int .i64 0, .int .i64 3, .int .i64 8] ?_
      intro v183 w30 ho31 hb hg_ hnew_
      clear hg_ hnew_
      (first | rw [← Ny182.out] at ho31 | (simp only [Int.reduceToNat] at ho31; rw [← Ny182.out] at ho31))
      replace HO_169001 := Aside0.mk (rB98 HO_169001.out hb)
      have HO184 := Aside0.mk (Kd.R_lower (Kd.R_new' ho31 (Kd.R_lt HO179.out)) (keep_size (w := w) (g := g) (row := none) HK.out))
      replace HO179 := Aside0.mk (Kd.R_elder' HO179.out (Kd.R_base ho31) hb)
      replace BK165 := kb_ BK165 hb
      replace BK168 := kb_ BK168 hb
      replace HI0 := Aside0.mk (IsS106.below HI0.out hb)
      replace HK := Aside0.mk (KeepBut.trans HK.out (KeepBut.of_below hb g none) (.inl rfl))
      replace HB := Aside0.mk (below_step HB.out hb)
      clear hb ho31
      refine hK.out _ _ ⟨ct_ BK168.out 0, ct_ BK168.out 1⟩ (fun hHeld => ?_)
      clear hK K
      refine nm1_ (some 30) ?_
      exact norm_ nn_ (hJ3_7_10_11_12_14 (v178, v183) _ ⟨hHeld, (by (with_reducible repeat (first | apply rA98 | apply rN98 | apply Kd.R_drew)); exact Kd.R_mono HO179.out (fun _ hk => by first | exact hk.2 | trivial | simp_all)), (by (with_reducible repeat (first | apply rA98 | apply rN98 | apply Kd.R_drew)); exact Kd.R_mono HO184.out (fun _ hk => by first | exact hk.2 | trivial | simp_all)), HO_169001.out, BK165.out, BK168.out, HI0.out, HK.out, HB.out⟩)
     ·skip
      refine bs_ 5 #[.int .i64 0, .int .i64 0, .int .i64 0, .int .i64 0, .int .i64 0] 37 ?_
      intro gb189 hg w30 hbox hb
      replace HO_169001 := Aside0.mk (rB98 (Kd.R_elderB HO_169001.out gb189 (Nat.le_of_eq hg.symm)) hb)
      replace HO179 := Aside0.mk (rB98 HO179.out hb)
      replace HB := Aside0.mk (below_step HB.out hb)
      have BK189 := Aside0.mk (hbox)
      have GW189 := Aside0.mk ((by rw [hg]; exact (keep_size (w := w) (g := g) (row := none) HK.out) : w.heap.size ≤ gb189))
      have GE189 := Aside0.mk ((Nat.le_trans HW0.out (by rw [hg]; exact (keep_size (w := w) (g := g) (row := none) HK.out) : w.heap.size ≤ gb189) : w0.heap.size ≤ gb189))
      replace HK := Aside0.mk (KeepBut.trans HK.out (KeepBut.of_below hb g none) (.inl rfl))
      have NB165_189 := Aside0.mk (nl_ BK165.out hg)
      have NB189_165 := Aside0.mk (nm_ BK165.out hg)
      replace BK165 := kb_ BK165 hb
      have NB168_189 := Aside0.mk (nl_ BK168.out hg)
      have NB189_168 := Aside0.mk (nm_ BK168.out hg)
      replace BK168 := kb_ BK168 hb
      have NB0_189 := Aside0.mk ((by rw [hg]; exact Nat.ne_of_lt (IsS106.lt (show IsS106 w0 _ g s0_0 t181 from ni106_98 HI0.out)) : g ≠ gb189))
      have NB189_0 := Aside0.mk ((by rw [hg]; exact Nat.ne_of_gt (IsS106.lt (show IsS106 w0 _ g s0_0 t181 from ni106_98 HI0.out)) : gb189 ≠ g))
      replace HI0 := Aside0.mk (IsS106.below HI0.out hb)
      clear hb hbox hg
      refine hK.out _ _ ⟨ct_ BK168.out 0, ct_ BK168.out 1⟩ (fun hHeld => ?_)
      clear hK K
      refine nm1_ (some 5) ?_
      exact norm_ nn_ (hJ3_7_10_11_12_19 (v178, gb189) _ ⟨hHeld, HO179.out, (by (with_reducible repeat (first | apply rA98 | apply rN98 | apply Kd.R_drew)); exact Kd.R_mono HO_169001.out (fun _ hk => by first | exact hk.2 | trivial | simp_all)), BK165.out, BK168.out, BK189.out, GW189.out, GE189.out, NB0_189.out, NB189_0.out, NB165_189.out, NB189_165.out, NB168_189.out, NB189_168.out, HI0.out, HK.out, HB.out⟩)
    intro hJ3_7_10_11_12
    refine join_ (σ := Value × Value) 6 z98_9 (fun s_ => [(19, .int .i64 t171), (23, .int .i64 t173), (26, .int .i64 t175), (27, s_.1), (30, s_.2)]) (fun s_ w' => (w'.cell? ⟨gb168, 0, none⟩ = some (.int .i64 (wrap64 (2 + t166))) ∧ w'.cell? ⟨gb168, 1, none⟩ = some (u169001)) ∧ (Kd.R (Kd.int .i64) 3 w' w.heap.size (fun k_ => some k_ ≠ (s_.2 : Value).ownBlock) s_.1 y177) ∧ (Kd.R (Kd.int .i64) 3 w' w.heap.size (fun k_ => some k_ ≠ (s_.1 : Value).ownBlock) s_.2 y182) ∧ (Kd.R k37 37 w' w.heap.size (fun _ => True) u169001 x169001_1) ∧ (w'.heap[gb165]? = some (.cells #[.int .i64 0, .slice none 0 0] 29 (0, 0))) ∧ (w'.heap[gb168]? = some (.cells #[.int .i64 (wrap64 (2 + t166)), u169001] 29 (0, 0))) ∧ (IsS106 w0 w' g s0_0 t176) ∧ (KeepBut w w' g none) ∧ (Below w0.heap.size w0 w')) ?_ ?_
    ·skip
     rintro ⟨v178, v183⟩ w29 ⟨hS_, h0_, h1_, h2_, h3_, h4_, h5_, h6_, h7_⟩
     have HO179 : Aside0 (Kd.R (Kd.int .i64) 3 w29 w.heap.size (fun k_ => some k_ ≠ (v183 : Value).ownBlock) v178 y177) := ⟨h0_⟩
     have HO184 : Aside0 (Kd.R (Kd.int .i64) 3 w29 w.heap.size (fun k_ => some k_ ≠ (v178 : Value).ownBlock) v183 y182) := ⟨h1_⟩
     replace HO_169001 : Aside0 (Kd.R k37 37 w29 w.heap.size (fun _ => True) u169001 x169001_1) := ⟨h2_⟩
     replace BK165 : Aside0 (w29.heap[gb165]? = some (.cells #[.int .i64 0, .slice none 0 0] 29 (0, 0))) := ⟨h3_⟩
     replace BK168 : Aside0 (w29.heap[gb168]? = some (.cells #[.int .i64 (wrap64 (2 + t166)), u169001] 29 (0, 0))) := ⟨h4_⟩
     replace HI0 : Aside0 (IsS106 w0 w29 g s0_0 t176) := ⟨h5_⟩
     replace HK : Aside0 (KeepBut w w29 g none) := ⟨h6_⟩
     replace HB : Aside0 (Below w0.heap.size w0 w29) := ⟨h7_⟩
     clear h0_ h1_ h2_ h3_ h4_ h5_ h6_ h7_
     have hHeld : w29.cell? ⟨gb168, 0, none⟩ = some (.int .i64 (wrap64 (2 + t166))) ∧ w29.cell? ⟨gb168, 1, none⟩ = some (u169001) := hS_
     obtain ⟨Ao30, co30, eo30⟩ := Kd.R_slice HO179.out
     (first | subst eo30 | (injection eo30 with f1_ f2_ f3_; have f4_ := f1_.symm; have f5_ := f3_.symm; clear f1_ f2_ f3_; subst f4_; subst f5_))
     refine nm2_ ?_
     refine two_ (i := 12) (j := 19) (Ni := some 28) (Nj := some 5) z98_5 z98_7 rfl rfl rfl rfl (two_of HT_.out (by kernel_rfl)) (by decide) (by decide) (fun K hK => ?_) (fun K hK => ?_)
     ·skip
      refine go_ Try.func99 #[.pointer (some ⟨g, 0, none⟩), .slice Ao30 y177.length co30] ?_
      with_reducible refine (spec_l30Rd_one.calls k1 g s0_0 t176 _ _ y177 t180 t181 w0 _ ?side1 ?side2 ?side3 ?side4 ?side5 A15.out).mono ?_
      (case side1 => exact HI0.out)
      (case side2 => exact HB.out)
      (case side3 => exact nc_ (Kd.R_reads' HO179.out).2.2)
      (case side4 => exact (Kd.R_reads' HO179.out).2.1)
      (case side5 => exact far_slice (IsS106.own_ne HI0.out HO179.out (by decide)))
      rintro e w31 ⟨rfl, hi, hb, hk⟩
      refine ⟨_, rfl, ?_⟩
      replace HO_169001 := Aside0.mk (Kd.R_mono (Kd.R_keep (IsS106.apart (show IsS106 w0 _ g s0_0 t176 from ni106_98 HI0.out) HO_169001.out (by decide)) hk (fun _ h => h.2)) (fun _ h => h.1))
      replace BK165 := kk_ BK165 hk NB165_0
      replace BK168 := kk_ BK168 hk NB168_0
      replace HO179 := Aside0.mk (Kd.R_mono (Kd.R_keep (IsS106.apart (show IsS106 w0 _ g s0_0 t176 from ni106_98 HI0.out) HO179.out (by decide)) hk (fun _ h => h.2)) (fun _ h => h.1))
      replace HO184 := Aside0.mk (Kd.R_mono (Kd.R_keep (IsS106.apart (show IsS106 w0 _ g s0_0 t176 from ni106_98 HI0.out) HO184.out (by decide)) hk (fun _ h => h.2)) (fun _ h => h.1))
      replace HK := Aside0.mk (KeepBut.trans HK.out hk (.inl rfl))
      replace HB := Aside0.mk (hb)
      replace HI0 := Aside0.mk (hi)
      (try clear hb)
      (try clear hb2)
      (try clear hk)
      (try clear hi)
      refine hK.out _ _ ⟨ct_ BK168.out 0, ct_ BK168.out 1⟩ (fun hHeld => ?_)
      clear hK K
      refine nm1_ (some 28) ?_
      exact norm_ nn_ (hJ3_7_10_11_12_14 (.slice Ao30 y177.length co30, v183) _ ⟨hHeld, HO179.out, HO184.out, HO_169001.out, BK165.out, BK168.out, HI0.out, HK.out, HB.out⟩)
     ·skip
      refine bs_ 5 #[.int .i64 0, .int .i64 0, .int .i64 0, .int .i64 0, .int .i64 0] 37 ?_
      intro gb189 hg w30 hbox hb
      replace HO_169001 := Aside0.mk (rB98 (Kd.R_elderB HO_169001.out gb189 (Nat.le_of_eq hg.symm)) hb)
      replace HO179 := Aside0.mk (rB98 HO179.out hb)
      replace HO184 := Aside0.mk (rB98 HO184.out hb)
      replace HB := Aside0.mk (below_step HB.out hb)
      have BK189 := Aside0.mk (hbox)
      have GW189 := Aside0.mk ((by rw [hg]; exact (keep_size (w := w) (g := g) (row := none) HK.out) : w.heap.size ≤ gb189))
      have GE189 := Aside0.mk ((Nat.le_trans HW0.out (by rw [hg]; exact (keep_size (w := w) (g := g) (row := none) HK.out) : w.heap.size ≤ gb189) : w0.heap.size ≤ gb189))
      replace HK := Aside0.mk (KeepBut.trans HK.out (KeepBut.of_below hb g none) (.inl rfl))
      have NB165_189 := Aside0.mk (nl_ BK165.out hg)
      have NB189_165 := Aside0.mk (nm_ BK165.out hg)
      replace BK165 := kb_ BK165 hb
      have NB168_189 := Aside0.mk (nl_ BK168.out hg)
      have NB189_168 := Aside0.mk (nm_ BK168.out hg)
      replace BK168 := kb_ BK168 hb
      have NB0_189 := Aside0.mk ((by rw [hg]; exact Nat.ne_of_lt (IsS106.lt (show IsS106 w0 _ g s0_0 t176 from ni106_98 HI0.out)) : g ≠ gb189))
      have NB189_0 := Aside0.mk ((by rw [hg]; exact Nat.ne_of_gt (IsS106.lt (show IsS106 w0 _ g s0_0 t176 from ni106_98 HI0.out)) : gb189 ≠ g))
      replace HI0 := Aside0.mk (IsS106.below HI0.out hb)
      clear hb hbox hg
      refine hK.out _ _ ⟨ct_ BK168.out 0, ct_ BK168.out 1⟩ (fun hHeld => ?_)
      clear hK K
      refine nm1_ (some 5) ?_
      exact norm_ nn_ (hJ3_7_10_11_14_19 ((.slice Ao30 y177.length co30), v183, gb189) _ ⟨hHeld, HO179.out, HO184.out, (by (with_reducible repeat (first | apply rA98 | apply rN98 | apply Kd.R_drew)); exact Kd.R_mono HO_169001.out (fun _ hk => by first | exact hk.2 | trivial | simp_all)), BK165.out, BK168.out, BK189.out, GW189.out, GE189.out, NB0_189.out, NB189_0.out, NB165_189.out, NB189_165.out, NB168_189.out, NB189_168.out, HI0.out, HK.out, HB.out⟩)
    intro hJ3_7_10_11_14
    refine join_ (σ := Value × Nat) 6 z98_10 (fun s_ => [(19, .int .i64 t171), (23, .int .i64 t173), (26, .int .i64 t175), (27, s_.1), (5, .pointer (some ⟨s_.2, 0, none⟩))]) (fun s_ w' => (w'.cell? ⟨gb168, 0, none⟩ = some (.int .i64 (wrap64 (2 + t166))) ∧ w'.cell? ⟨gb168, 1, none⟩ = some (u169001)) ∧ (Kd.R (Kd.int .i64) 3 w' w.heap.size (fun _ => True) s_.1 y177) ∧ (Kd.R k37 37 w' w.heap.size (fun k_ => k_ ≠ s_.2) u169001 x169001_1) ∧ (w'.heap[gb165]? = some (.cells #[.int .i64 0, .slice none 0 0] 29 (0, 0))) ∧ (w'.heap[gb168]? = some (.cells #[.int .i64 (wrap64 (2 + t166)), u169001] 29 (0, 0))) ∧ (w'.heap[s_.2]? = some (.cells #[.int .i64 0, .int .i64 0, .int .i64 0, .int .i64 0, .int .i64 0] 37 (0, 0))) ∧ (w.heap.size ≤ s_.2) ∧ (w0.heap.size ≤ s_.2) ∧ (g ≠ s_.2) ∧ (s_.2 ≠ g) ∧ (gb165 ≠ s_.2) ∧ (s_.2 ≠ gb165) ∧ (gb168 ≠ s_.2) ∧ (s_.2 ≠ gb168) ∧ (IsS106 w0 w' g s0_0 t176) ∧ (KeepBut w w' g none) ∧ (Below w0.heap.size w0 w')) ?_ ?_
    ·skip
     rintro ⟨v178, gb189⟩ w28 ⟨hS_, h0_, h1_, h2_, h3_, h4_, h5_, h6_, h7_, h8_, h9_, h10_, h11_, h12_, h13_, h14_, h15_⟩
     have HO179 : Aside0 (Kd.R (Kd.int .i64) 3 w28 w.heap.size (fun _ => True) v178 y177) := ⟨h0_⟩
     replace HO_169001 : Aside0 (Kd.R k37 37 w28 w.heap.size (fun k_ => k_ ≠ gb189) u169001 x169001_1) := ⟨h1_⟩
     replace BK165 : Aside0 (w28.heap[gb165]? = some (.cells #[.int .i64 0, .slice none 0 0] 29 (0, 0))) := ⟨h2_⟩
     replace BK168 : Aside0 (w28.heap[gb168]? = some (.cells #[.int .i64 (wrap64 (2 + t166)), u169001] 29 (0, 0))) := ⟨h3_⟩
     have BK189 : Aside0 (w28.heap[gb189]? = some (.cells #[.int .i64 0, .int .i64 0, .int .i64 0, .int .i64 0, .int .i64 0] 37 (0, 0))) := ⟨h4_⟩
     have GW189 : Aside0 (w.heap.size ≤ gb189) := ⟨h5_⟩
     have GE189 : Aside0 (w0.heap.size ≤ gb189) := ⟨h6_⟩
     have NB0_189 : Aside0 (g ≠ gb189) := ⟨h7_⟩
     have NB189_0 : Aside0 (gb189 ≠ g) := ⟨h8_⟩
     have NB165_189 : Aside0 (gb165 ≠ gb189) := ⟨h9_⟩
     have NB189_165 : Aside0 (gb189 ≠ gb165) := ⟨h10_⟩
     have NB168_189 : Aside0 (gb168 ≠ gb189) := ⟨h11_⟩
     have NB189_168 : Aside0 (gb189 ≠ gb168) := ⟨h12_⟩
     replace HI0 : Aside0 (IsS106 w0 w28 g s0_0 t176) := ⟨h13_⟩
     replace HK : Aside0 (KeepBut w w28 g none) := ⟨h14_⟩
     replace HB : Aside0 (Below w0.heap.size w0 w28) := ⟨h15_⟩
     clear h0_ h1_ h2_ h3_ h4_ h5_ h6_ h7_ h8_ h9_ h10_ h11_ h12_ h13_ h14_ h15_
     have hHeld : w28.cell? ⟨gb168, 0, none⟩ = some (.int .i64 (wrap64 (2 + t166))) ∧ w28.cell? ⟨gb168, 1, none⟩ = some (u169001) := hS_
     obtain ⟨Ao29, co29, eo29⟩ := Kd.R_slice HO179.out
     (first | subst eo29 | (injection eo29 with f1_ f2_ f3_; have f4_ := f1_.symm; have f5_ := f3_.symm; clear f1_ f2_ f3_; subst f4_; subst f5_))
     refine nm2_ ?_
     refine two_ (i := 12) (j := 14) (Ni := some 28) (Nj := some 30) z98_6 z98_7 rfl rfl rfl rfl (two_of HT_.out (by kernel_rfl)) (by decide) (by decide) (fun K hK => ?_) (fun K hK => ?_)
     ·skip
      refine go_ Try.func99 #[.pointer (some ⟨g, 0, none⟩), .slice Ao29 y177.length co29] ?_
      with_reducible refine (spec_l30Rd_one.calls k1 g s0_0 t176 _ _ y177 t180 t181 w0 _ ?side1 ?side2 ?side3 ?side4 ?side5 A15.out).mono ?_
      (case side1 => exact HI0.out)
      (case side2 => exact HB.out)
      (case side3 => exact nc_ (Kd.R_reads' HO179.out).2.2)
      (case side4 => exact (Kd.R_reads' HO179.out).2.1)
      (case side5 => exact far_slice (IsS106.own_ne HI0.out HO179.out (by decide)))
      rintro e w30 ⟨rfl, hi, hb, hk⟩
      refine ⟨_, rfl, ?_⟩
      replace HO_169001 := Aside0.mk (Kd.R_mono (Kd.R_keep (IsS106.apart (show IsS106 w0 _ g s0_0 t176 from ni106_98 HI0.out) HO_169001.out (by decide)) hk (fun _ h => h.2)) (fun _ h => h.1))
      replace BK165 := kk_ BK165 hk NB165_0
      replace BK168 := kk_ BK168 hk NB168_0
      replace HO179 := Aside0.mk (Kd.R_mono (Kd.R_keep (IsS106.apart (show IsS106 w0 _ g s0_0 t176 from ni106_98 HI0.out) HO179.out (by decide)) hk (fun _ h => h.2)) (fun _ h => h.1))
      replace BK189 := kk_ BK189 hk NB189_0
      replace HK := Aside0.mk (KeepBut.trans HK.out hk (.inl rfl))
      replace HB := Aside0.mk (hb)
      replace HI0 := Aside0.mk (hi)
      (try clear hb)
      (try clear hb2)
      (try clear hk)
      (try clear hi)
      refine hK.out _ _ ⟨ct_ BK168.out 0, ct_ BK168.out 1⟩ (fun hHeld => ?_)
      clear hK K
      refine nm1_ (some 28) ?_
      exact norm_ nn_ (hJ3_7_10_11_12_19 (.slice Ao29 y177.length co29, gb189) _ ⟨hHeld, HO179.out, HO_169001.out, BK165.out, BK168.out, BK189.out, GW189.out, GE189.out, NB0_189.out, NB189_0.out, NB165_189.out, NB189_165.out, NB168_189.out, NB189_168.out, HI0.out, HK.out, HB.out⟩)
     ·skip
      refine ls_ 30 3 [0, 0, 3, 8] [.int .i64 0, .int .i64 0, .int .i64 3, .int .i64 8] ?_
      intro v183 w29 ho30 hb hg_ hnew_
      clear hg_ hnew_
      (first | rw [← Ny182.out] at ho30 | (simp only [Int.reduceToNat] at ho30; rw [← Ny182.out] at ho30))
      replace HO_169001 := Aside0.mk (rB98 HO_169001.out hb)
      have HO184 := Aside0.mk (Kd.R_lower (Kd.R_new' ho30 (Kd.R_lt HO179.out)) (keep_size (w := w) (g := g) (row := none) HK.out))
      replace HO179 := Aside0.mk (Kd.R_elder' HO179.out (Kd.R_base ho30) hb)
      replace BK165 := kb_ BK165 hb
      replace BK168 := kb_ BK168 hb
      replace HI0 := Aside0.mk (IsS106.below HI0.out hb)
      replace BK189 := kb_ BK189 hb
      replace HK := Aside0.mk (KeepBut.trans HK.out (KeepBut.of_below hb g none) (.inl rfl))
      replace HB := Aside0.mk (below_step HB.out hb)
      clear hb ho30
      refine hK.out _ _ ⟨ct_ BK168.out 0, ct_ BK168.out 1⟩ (fun hHeld => ?_)
      clear hK K
      refine nm1_ (some 30) ?_
      exact norm_ nn_ (hJ3_7_10_11_14_19 ((.slice Ao29 y177.length co29), v183, gb189) _ ⟨hHeld, (by (with_reducible repeat (first | apply rA98 | apply rN98 | apply Kd.R_drew)); exact Kd.R_mono HO179.out (fun _ hk => by first | exact hk.2 | trivial | simp_all)), (by (with_reducible repeat (first | apply rA98 | apply rN98 | apply Kd.R_drew)); exact Kd.R_mono HO184.out (fun _ hk => by first | exact hk.2 | trivial | simp_all)), HO_169001.out, BK165.out, BK168.out, BK189.out, GW189.out, GE189.out, NB0_189.out, NB189_0.out, NB165_189.out, NB189_165.out, NB168_189.out, NB189_168.out, HI0.out, HK.out, HB.out⟩)
    intro hJ3_7_10_11_19
    refine join_ (σ := Value × Nat) 6 z98_11 (fun s_ => [(19, .int .i64 t171), (23, .int .i64 t173), (26, .int .i64 t175), (30, s_.1), (5, .pointer (some ⟨s_.2, 0, none⟩))]) (fun s_ w' => (w'.cell? ⟨gb168, 0, none⟩ = some (.int .i64 (wrap64 (2 + t166))) ∧ w'.cell? ⟨gb168, 1, none⟩ = some (u169001)) ∧ (Kd.R (Kd.int .i64) 3 w' w.heap.size (fun _ => True) s_.1 y182) ∧ (Kd.R k37 37 w' w.heap.size (fun k_ => k_ ≠ s_.2) u169001 x169001_1) ∧ (w'.heap[gb165]? = some (.cells #[.int .i64 0, .slice none 0 0] 29 (0, 0))) ∧ (w'.heap[gb168]? = some (.cells #[.int .i64 (wrap64 (2 + t166)), u169001] 29 (0, 0))) ∧ (w'.heap[s_.2]? = some (.cells #[.int .i64 0, .int .i64 0, .int .i64 0, .int .i64 0, .int .i64 0] 37 (0, 0))) ∧ (w.heap.size ≤ s_.2) ∧ (w0.heap.size ≤ s_.2) ∧ (g ≠ s_.2) ∧ (s_.2 ≠ g) ∧ (gb165 ≠ s_.2) ∧ (s_.2 ≠ gb165) ∧ (gb168 ≠ s_.2) ∧ (s_.2 ≠ gb168) ∧ (IsS106 w0 w' g s0_0 t176) ∧ (KeepBut w w' g none) ∧ (Below w0.heap.size w0 w')) ?_ ?_
    ·skip
     rintro ⟨v183, gb189⟩ w28 ⟨hS_, h0_, h1_, h2_, h3_, h4_, h5_, h6_, h7_, h8_, h9_, h10_, h11_, h12_, h13_, h14_, h15_⟩
     have HO184 : Aside0 (Kd.R (Kd.int .i64) 3 w28 w.heap.size (fun _ => True) v183 y182) := ⟨h0_⟩
     replace HO_169001 : Aside0 (Kd.R k37 37 w28 w.heap.size (fun k_ => k_ ≠ gb189) u169001 x169001_1) := ⟨h1_⟩
     replace BK165 : Aside0 (w28.heap[gb165]? = some (.cells #[.int .i64 0, .slice none 0 0] 29 (0, 0))) := ⟨h2_⟩
     replace BK168 : Aside0 (w28.heap[gb168]? = some (.cells #[.int .i64 (wrap64 (2 + t166)), u169001] 29 (0, 0))) := ⟨h3_⟩
     have BK189 : Aside0 (w28.heap[gb189]? = some (.cells #[.int .i64 0, .int .i64 0, .int .i64 0, .int .i64 0, .int .i64 0] 37 (0, 0))) := ⟨h4_⟩
     have GW189 : Aside0 (w.heap.size ≤ gb189) := ⟨h5_⟩
     have GE189 : Aside0 (w0.heap.size ≤ gb189) := ⟨h6_⟩
     have NB0_189 : Aside0 (g ≠ gb189) := ⟨h7_⟩
     have NB189_0 : Aside0 (gb189 ≠ g) := ⟨h8_⟩
     have NB165_189 : Aside0 (gb165 ≠ gb189) := ⟨h9_⟩
     have NB189_165 : Aside0 (gb189 ≠ gb165) := ⟨h10_⟩
     have NB168_189 : Aside0 (gb168 ≠ gb189) := ⟨h11_⟩
     have NB189_168 : Aside0 (gb189 ≠ gb168) := ⟨h12_⟩
     replace HI0 : Aside0 (IsS106 w0 w28 g s0_0 t176) := ⟨h13_⟩
     replace HK : Aside0 (KeepBut w w28 g none) := ⟨h14_⟩
     replace HB : Aside0 (Below w0.heap.size w0 w28) := ⟨h15_⟩
     clear h0_ h1_ h2_ h3_ h4_ h5_ h6_ h7_ h8_ h9_ h10_ h11_ h12_ h13_ h14_ h15_
     have hHeld : w28.cell? ⟨gb168, 0, none⟩ = some (.int .i64 (wrap64 (2 + t166))) ∧ w28.cell? ⟨gb168, 1, none⟩ = some (u169001) := hS_
     refine nm2_ ?_
     refine one_ (i := 11) (N := some 27) z98_7 rfl rfl (one_of HT_.out (by kernel_rfl)) (by decide) (fun K hK => ?_)
     refine ls_ 27 3 [0, 1, 2, 5, 9, t175] [.int .i64 0, .int .i64 1, .int .i64 2, .int .i64 5, .int .i64 9, .int .i64 t175] ?_
     intro v178 w29 ho30 hb hg_ hnew_
     clear hg_ hnew_
     (first | rw [← Ny177.out] at ho30 | (simp only [Int.reduceToNat] at ho30; rw [← Ny177.out] at ho30))
     replace HO_169001 := Aside0.mk (rB98 HO_169001.out hb)
     have HO179 := Aside0.mk (Kd.R_lower (Kd.R_new' ho30 (Kd.R_lt HO184.out)) (keep_size (w := w) (g := g) (row := none) HK.out))
     replace HO184 := Aside0.mk (Kd.R_elder' HO184.out (Kd.R_base ho30) hb)
     replace BK165 := kb_ BK165 hb
     replace BK168 := kb_ BK168 hb
     replace HI0 := Aside0.mk (IsS106.below HI0.out hb)
     replace BK189 := kb_ BK189 hb
     replace HK := Aside0.mk (KeepBut.trans HK.out (KeepBut.of_below hb g none) (.inl rfl))
     replace HB := Aside0.mk (below_step HB.out hb)
     clear hb ho30
     refine hK.out _ _ ⟨ct_ BK168.out 0, ct_ BK168.out 1⟩ (fun hHeld => ?_)
     clear hK K
     refine nm1_ (some 27) ?_
     exact norm_ nn_ (hJ3_7_10_11_14_19 (v178, v183, gb189) _ ⟨hHeld, (by (with_reducible repeat (first | apply rA98 | apply rN98 | apply Kd.R_drew)); exact Kd.R_mono HO179.out (fun _ hk => by first | exact hk.2 | trivial | simp_all)), (by (with_reducible repeat (first | apply rA98 | apply rN98 | apply Kd.R_drew)); exact Kd.R_mono HO184.out (fun _ hk => by first | exact hk.2 | trivial | simp_all)), HO_169001.out, BK165.out, BK168.out, BK189.out, GW189.out, GE189.out, NB0_189.out, NB189_0.out, NB165_189.out, NB189_165.out, NB168_189.out, NB189_168.out, HI0.out, HK.out, HB.out⟩)
    intro hJ3_7_10_14_19
    refine join_ (σ := Value) 7 z98_12 (fun s_ => [(19, .int .i64 t171), (23, .int .i64 t173), (26, .int .i64 t175), (27, s_)]) (fun s_ w' => (w'.cell? ⟨gb168, 0, none⟩ = some (.int .i64 (wrap64 (2 + t166))) ∧ w'.cell? ⟨gb168, 1, none⟩ = some (u169001)) ∧ (Kd.R (Kd.int .i64) 3 w' w.heap.size (fun _ => True) s_ y177) ∧ (Kd.R k37 37 w' w.heap.size (fun _ => True) u169001 x169001_1) ∧ (w'.heap[gb165]? = some (.cells #[.int .i64 0, .slice none 0 0] 29 (0, 0))) ∧ (w'.heap[gb168]? = some (.cells #[.int .i64 (wrap64 (2 + t166)), u169001] 29 (0, 0))) ∧ (IsS106 w0 w' g s0_0 t176) ∧ (KeepBut w w' g none) ∧ (Below w0.heap.size w0 w')) ?_ ?_
    ·skip
     rintro v178 w27 ⟨hS_, h0_, h1_, h2_, h3_, h4_, h5_, h6_⟩
     have HO179 : Aside0 (Kd.R (Kd.int .i64) 3 w27 w.heap.size (fun _ => True) v178 y177) := ⟨h0_⟩
     replace HO_169001 : Aside0 (Kd.R k37 37 w27 w.heap.size (fun _ => True) u169001 x169001_1) := ⟨h1_⟩
     replace BK165 : Aside0 (w27.heap[gb165]? = some (.cells #[.int .i64 0, .slice none 0 0] 29 (0, 0))) := ⟨h2_⟩
     replace BK168 : Aside0 (w27.heap[gb168]? = some (.cells #[.int .i64 (wrap64 (2 + t166)), u169001] 29 (0, 0))) := ⟨h3_⟩
     replace HI0 : Aside0 (IsS106 w0 w27 g s0_0 t176) := ⟨h4_⟩
     replace HK : Aside0 (KeepBut w w27 g none) := ⟨h5_⟩
     replace HB : Aside0 (Below w0.heap.size w0 w27) := ⟨h6_⟩
     clear h0_ h1_ h2_ h3_ h4_ h5_ h6_
     have hHeld : w27.cell? ⟨gb168, 0, none⟩ = some (.int .i64 (wrap64 (2 + t166))) ∧ w27.cell? ⟨gb168, 1, none⟩ = some (u169001) := hS_
     obtain ⟨Ao28, co28, eo28⟩ := Kd.R_slice HO179.out
     (first | subst eo28 | (injection eo28 with f1_ f2_ f3_; have f4_ := f1_.symm; have f5_ := f3_.symm; clear f1_ f2_ f3_; subst f4_; subst f5_))
     refine nm2_ ?_
     refine three_ (i := 12) (j := 14) (k := 19) (Ni := some 28) (Nj := some 30) (Nk := some 5) z98_8 z98_9 z98_10 rfl rfl rfl rfl rfl rfl (three_of HT_.out (by kernel_rfl)) (by decide) (by decide) (by decide) (fun K hK => ?_) (fun K hK => ?_) (fun K hK => ?_)
     ·skip
      refine go_ Try.func99 #[.pointer (some ⟨g, 0, none⟩), .slice Ao28 y177.length co28] ?_
      with_reducible refine (spec_l30Rd_one.calls k1 g s0_0 t176 _ _ y177 t180 t181 w0 _ ?side1 ?side2 ?side3 ?side4 ?side5 A15.out).mono ?_
      (case side1 => exact HI0.out)
      (case side2 => exact HB.out)
      (case side3 => exact nc_ (Kd.R_reads' HO179.out).2.2)
      (case side4 => exact (Kd.R_reads' HO179.out).2.1)
      (case side5 => exact far_slice (IsS106.own_ne HI0.out HO179.out (by decide)))
      rintro e w29 ⟨rfl, hi, hb, hk⟩
      refine ⟨_, rfl, ?_⟩
      replace HO_169001 := Aside0.mk (Kd.R_mono (Kd.R_keep (IsS106.apart (show IsS106 w0 _ g s0_0 t176 from ni106_98 HI0.out) HO_169001.out (by decide)) hk (fun _ h => h.2)) (fun _ h => h.1))
      replace BK165 := kk_ BK165 hk NB165_0
      replace BK168 := kk_ BK168 hk NB168_0
      replace HO179 := Aside0.mk (Kd.R_mono (Kd.R_keep (IsS106.apart (show IsS106 w0 _ g s0_0 t176 from ni106_98 HI0.out) HO179.out (by decide)) hk (fun _ h => h.2)) (fun _ h => h.1))
      replace HK := Aside0.mk (KeepBut.trans HK.out hk (.inl rfl))
      replace HB := Aside0.mk (hb)
      replace HI0 := Aside0.mk (hi)
      (try clear hb)
      (try clear hb2)
      (try clear hk)
      (try clear hi)
      refine hK.out _ _ ⟨ct_ BK168.out 0, ct_ BK168.out 1⟩ (fun hHeld => ?_)
      clear hK K
      refine nm1_ (some 28) ?_
      exact norm_ nn_ (hJ3_7_10_11_12 (.slice Ao28 y177.length co28) _ ⟨hHeld, HO179.out, HO_169001.out, BK165.out, BK168.out, HI0.out, HK.out, HB.out⟩)
     ·skip
      refine ls_ 30 3 [0, 0, 3, 8] [.int .i64 0, .int .i64 0, .int .i64 3, .int .i64 8] ?_
      intro v183 w28 ho29 hb hg_ hnew_
      clear hg_ hnew_
      (first | rw [← Ny182.out] at ho29 | (simp only [Int.reduceToNat] at ho29; rw [← Ny182.out] at ho29))
      replace HO_169001 := Aside0.mk (rB98 HO_169001.out hb)
      have HO184 := Aside0.mk (Kd.R_lower (Kd.R_new' ho29 (Kd.R_lt HO179.out)) (keep_size (w := w) (g := g) (row := none) HK.out))
      replace HO179 := Aside0.mk (Kd.R_elder' HO179.out (Kd.R_base ho29) hb)
      replace BK165 := kb_ BK165 hb
      replace BK168 := kb_ BK168 hb
      replace HI0 := Aside0.mk (IsS106.below HI0.out hb)
      replace HK := Aside0.mk (KeepBut.trans HK.out (KeepBut.of_below hb g none) (.inl rfl))
      replace HB := Aside0.mk (below_step HB.out hb)
      clear hb ho29
      refine hK.out _ _ ⟨ct_ BK168.out 0, ct_ BK168.out 1⟩ (fun hHeld => ?_)
      clear hK K
      refine nm1_ (some 30) ?_
      exact norm_ nn_ (hJ3_7_10_11_14 ((.slice Ao28 y177.length co28), v183) _ ⟨hHeld, (by (with_reducible repeat (first | apply rA98 | apply rN98 | apply Kd.R_drew)); exact Kd.R_mono HO179.out (fun _ hk => by first | exact hk.2 | trivial | simp_all)), (by (with_reducible repeat (first | apply rA98 | apply rN98 | apply Kd.R_drew)); exact Kd.R_mono HO184.out (fun _ hk => by first | exact hk.2 | trivial | simp_all)), HO_169001.out, BK165.out, BK168.out, HI0.out, HK.out, HB.out⟩)
     ·skip
      refine bs_ 5 #[.int .i64 0, .int .i64 0, .int .i64 0, .int .i64 0, .int .i64 0] 37 ?_
      intro gb189 hg w28 hbox hb
      replace HO_169001 := Aside0.mk (rB98 (Kd.R_elderB HO_169001.out gb189 (Nat.le_of_eq hg.symm)) hb)
      replace HO179 := Aside0.mk (rB98 HO179.out hb)
      replace HB := Aside0.mk (below_step HB.out hb)
      have BK189 := Aside0.mk (hbox)
      have GW189 := Aside0.mk ((by rw [hg]; exact (keep_size (w := w) (g := g) (row := none) HK.out) : w.heap.size ≤ gb189))
      have GE189 := Aside0.mk ((Nat.le_trans HW0.out (by rw [hg]; exact (keep_size (w := w) (g := g) (row := none) HK.out) : w.heap.size ≤ gb189) : w0.heap.size ≤ gb189))
      replace HK := Aside0.mk (KeepBut.trans HK.out (KeepBut.of_below hb g none) (.inl rfl))
      have NB165_189 := Aside0.mk (nl_ BK165.out hg)
      have NB189_165 := Aside0.mk (nm_ BK165.out hg)
      replace BK165 := kb_ BK165 hb
      have NB168_189 := Aside0.mk (nl_ BK168.out hg)
      have NB189_168 := Aside0.mk (nm_ BK168.out hg)
      replace BK168 := kb_ BK168 hb
      have NB0_189 := Aside0.mk ((by rw [hg]; exact Nat.ne_of_lt (IsS106.lt (show IsS106 w0 _ g s0_0 t176 from ni106_98 HI0.out)) : g ≠ gb189))
      have NB189_0 := Aside0.mk ((by rw [hg]; exact Nat.ne_of_gt (IsS106.lt (show IsS106 w0 _ g s0_0 t176 from ni106_98 HI0.out)) : gb189 ≠ g))
      replace HI0 := Aside0.mk (IsS106.below HI0.out hb)
      clear hb hbox hg
      refine hK.out _ _ ⟨ct_ BK168.out 0, ct_ BK168.out 1⟩ (fun hHeld => ?_)
      clear hK K
      refine nm1_ (some 5) ?_
      exact norm_ nn_ (hJ3_7_10_11_19 ((.slice Ao28 y177.length co28), gb189) _ ⟨hHeld, HO179.out, (by (with_reducible repeat (first | apply rA98 | apply rN98 | apply Kd.R_drew)); exact Kd.R_mono HO_169001.out (fun _ hk => by first | exact hk.2 | trivial | simp_all)), BK165.out, BK168.out, BK189.out, GW189.out, GE189.out, NB0_189.out, NB189_0.out, NB165_189.out, NB189_165.out, NB168_189.out, NB189_168.out, HI0.out, HK.out, HB.out⟩)
    intro hJ3_7_10_11
    refine join_ (σ := Value) 7 z98_13 (fun s_ => [(19, .int .i64 t171), (23, .int .i64 t173), (26, .int .i64 t175), (30, s_)]) (fun s_ w' => (w'.cell? ⟨gb168, 0, none⟩ = some (.int .i64 (wrap64 (2 + t166))) ∧ w'.cell? ⟨gb168, 1, none⟩ = some (u169001)) ∧ (Kd.R (Kd.int .i64) 3 w' w.heap.size (fun _ => True) s_ y182) ∧ (Kd.R k37 37 w' w.heap.size (fun _ => True) u169001 x169001_1) ∧ (w'.heap[gb165]? = some (.cells #[.int .i64 0, .slice none 0 0] 29 (0, 0))) ∧ (w'.heap[gb168]? = some (.cells #[.int .i64 (wrap64 (2 + t166)), u169001] 29 (0, 0))) ∧ (IsS106 w0 w' g s0_0 t176) ∧ (KeepBut w w' g none) ∧ (Below w0.heap.size w0 w')) ?_ ?_
    ·skip
     rintro v183 w27 ⟨hS_, h0_, h1_, h2_, h3_, h4_, h5_, h6_⟩
     have HO184 : Aside0 (Kd.R (Kd.int .i64) 3 w27 w.heap.size (fun _ => True) v183 y182) := ⟨h0_⟩
     replace HO_169001 : Aside0 (Kd.R k37 37 w27 w.heap.size (fun _ => True) u169001 x169001_1) := ⟨h1_⟩
     replace BK165 : Aside0 (w27.heap[gb165]? = some (.cells #[.int .i64 0, .slice none 0 0] 29 (0, 0))) := ⟨h2_⟩
     replace BK168 : Aside0 (w27.heap[gb168]? = some (.cells #[.int .i64 (wrap64 (2 + t166)), u169001] 29 (0, 0))) := ⟨h3_⟩
     replace HI0 : Aside0 (IsS106 w0 w27 g s0_0 t176) := ⟨h4_⟩
     replace HK : Aside0 (KeepBut w w27 g none) := ⟨h5_⟩
     replace HB : Aside0 (Below w0.heap.size w0 w27) := ⟨h6_⟩
     clear h0_ h1_ h2_ h3_ h4_ h5_ h6_
     have hHeld : w27.cell? ⟨gb168, 0, none⟩ = some (.int .i64 (wrap64 (2 + t166))) ∧ w27.cell? ⟨gb168, 1, none⟩ = some (u169001) := hS_
     refine nm2_ ?_
     refine two_ (i := 11) (j := 19) (Ni := some 27) (Nj := some 5) z98_9 z98_11 rfl rfl rfl rfl (two_of HT_.out (by kernel_rfl)) (by decide) (by decide) (fun K hK => ?_) (fun K hK => ?_)
     ·skip
      refine ls_ 27 3 [0, 1, 2, 5, 9, t175] [.int .i64 0, .int .i64 1, .int .i64 2, .int .i64 5, .int .i64 9, .int .i64 t175] ?_
      intro v178 w28 ho29 hb hg_ hnew_
      clear hg_ hnew_
      (first | rw [← Ny177.out] at ho29 | (simp only [Int.reduceToNat] at ho29; rw [← Ny177.out] at ho29))
      replace HO_169001 := Aside0.mk (rB98 HO_169001.out hb)
      have HO179 := Aside0.mk (Kd.R_lower (Kd.R_new' ho29 (Kd.R_lt HO184.out)) (keep_size (w := w) (g := g) (row := none) HK.out))
      replace HO184 := Aside0.mk (Kd.R_elder' HO184.out (Kd.R_base ho29) hb)
      replace BK165 := kb_ BK165 hb
      replace BK168 := kb_ BK168 hb
      replace HI0 := Aside0.mk (IsS106.below HI0.out hb)
      replace HK := Aside0.mk (KeepBut.trans HK.out (KeepBut.of_below hb g none) (.inl rfl))
      replace HB := Aside0.mk (below_step HB.out hb)
      clear hb ho29
      refine hK.out _ _ ⟨ct_ BK168.out 0, ct_ BK168.out 1⟩ (fun hHeld => ?_)
      clear hK K
      refine nm1_ (some 27) ?_
      exact norm_ nn_ (hJ3_7_10_11_14 (v178, v183) _ ⟨hHeld, (by (with_reducible repeat (first | apply rA98 | apply rN98 | apply Kd.R_drew)); exact Kd.R_mono HO179.out (fun _ hk => by first | exact hk.2 | trivial | simp_all)), (by (with_reducible repeat (first | apply rA98 | apply rN98 | apply Kd.R_drew)); exact Kd.R_mono HO184.out (fun _ hk => by first | exact hk.2 | trivial | simp_all)), HO_169001.out, BK165.out, BK168.out, HI0.out, HK.out, HB.out⟩)
     ·skip
      refine bs_ 5 #[.int .i64 0, .int .i64 0, .int .i64 0, .int .i64 0, .int .i64 0] 37 ?_
      intro gb189 hg w28 hbox hb
      replace HO_169001 := Aside0.mk (rB98 (Kd.R_elderB HO_169001.out gb189 (Nat.le_of_eq hg.symm)) hb)
      replace HO184 := Aside0.mk (rB98 HO184.out hb)
      replace HB := Aside0.mk (below_step HB.out hb)
      have BK189 := Aside0.mk (hbox)
      have GW189 := Aside0.mk ((by rw [hg]; exact (keep_size (w := w) (g := g) (row := none) HK.out) : w.heap.size ≤ gb189))
      have GE189 := Aside0.mk ((Nat.le_trans HW0.out (by rw [hg]; exact (keep_size (w := w) (g := g) (row := none) HK.out) : w.heap.size ≤ gb189) : w0.heap.size ≤ gb189))
      replace HK := Aside0.mk (KeepBut.trans HK.out (KeepBut.of_below hb g none) (.inl rfl))
      have NB165_189 := Aside0.mk (nl_ BK165.out hg)
      have NB189_165 := Aside0.mk (nm_ BK165.out hg)
      replace BK165 := kb_ BK165 hb
      have NB168_189 := Aside0.mk (nl_ BK168.out hg)
      have NB189_168 := Aside0.mk (nm_ BK168.out hg)
      replace BK168 := kb_ BK168 hb
      have NB0_189 := Aside0.mk ((by rw [hg]; exact Nat.ne_of_lt (IsS106.lt (show IsS106 w0 _ g s0_0 t176 from ni106_98 HI0.out)) : g ≠ gb189))
      have NB189_0 := Aside0.mk ((by rw [hg]; exact Nat.ne_of_gt (IsS106.lt (show IsS106 w0 _ g s0_0 t176 from ni106_98 HI0.out)) : gb189 ≠ g))
      replace HI0 := Aside0.mk (IsS106.below HI0.out hb)
      clear hb hbox hg
      refine hK.out _ _ ⟨ct_ BK168.out 0, ct_ BK168.out 1⟩ (fun hHeld => ?_)
      clear hK K
      refine nm1_ (some 5) ?_
      exact norm_ nn_ (hJ3_7_10_14_19 (v183, gb189) _ ⟨hHeld, HO184.out, (by (with_reducible repeat (first | apply rA98 | apply rN98 | apply Kd.R_drew)); exact Kd.R_mono HO_169001.out (fun _ hk => by first | exact hk.2 | trivial | simp_all)), BK165.out, BK168.out, BK189.out, GW189.out, GE189.out, NB0_189.out, NB189_0.out, NB165_189.out, NB189_165.out, NB168_189.out, NB189_168.out, HI0.out, HK.out, HB.out⟩)
    intro hJ3_7_10_14
    refine join_ (σ := Nat) 7 z98_14 (fun s_ => [(19, .int .i64 t171), (23, .int .i64 t173), (26, .int .i64 t175), (5, .pointer (some ⟨s_, 0, none⟩))]) (fun s_ w' => (w'.cell? ⟨gb168, 0, none⟩ = some (.int .i64 (wrap64 (2 + t166))) ∧ w'.cell? ⟨gb168, 1, none⟩ = some (u169001)) ∧ (Kd.R k37 37 w' w.heap.size (fun k_ => k_ ≠ s_) u169001 x169001_1) ∧ (w'.heap[gb165]? = some (.cells #[.int .i64 0, .slice none 0 0] 29 (0, 0))) ∧ (w'.heap[gb168]? = some (.cells #[.int .i64 (wrap64 (2 + t166)), u169001] 29 (0, 0))) ∧ (w'.heap[s_]? = some (.cells #[.int .i64 0, .int .i64 0, .int .i64 0, .int .i64 0, .int .i64 0] 37 (0, 0))) ∧ (w.heap.size ≤ s_) ∧ (w0.heap.size ≤ s_) ∧ (g ≠ s_) ∧ (s_ ≠ g) ∧ (gb165 ≠ s_) ∧ (s_ ≠ gb165) ∧ (gb168 ≠ s_) ∧ (s_ ≠ gb168) ∧ (IsS106 w0 w' g s0_0 t176) ∧ (KeepBut w w' g none) ∧ (Below w0.heap.size w0 w')) ?_ ?_
    ·skip
     rintro gb189 w26 ⟨hS_, h0_, h1_, h2_, h3_, h4_, h5_, h6_, h7_, h8_, h9_, h10_, h11_, h12_, h13_, h14_⟩
     replace HO_169001 : Aside0 (Kd.R k37 37 w26 w.heap.size (fun k_ => k_ ≠ gb189) u169001 x169001_1) := ⟨h0_⟩
     replace BK165 : Aside0 (w26.heap[gb165]? = some (.cells #[.int .i64 0, .slice none 0 0] 29 (0, 0))) := ⟨h1_⟩
     replace BK168 : Aside0 (w26.heap[gb168]? = some (.cells #[.int .i64 (wrap64 (2 + t166)), u169001] 29 (0, 0))) := ⟨h2_⟩
     have BK189 : Aside0 (w26.heap[gb189]? = some (.cells #[.int .i64 0, .int .i64 0, .int .i64 0, .int .i64 0, .int .i64 0] 37 (0, 0))) := ⟨h3_⟩
     have GW189 : Aside0 (w.heap.size ≤ gb189) := ⟨h4_⟩
     have GE189 : Aside0 (w0.heap.size ≤ gb189) := ⟨h5_⟩
     have NB0_189 : Aside0 (g ≠ gb189) := ⟨h6_⟩
     have NB189_0 : Aside0 (gb189 ≠ g) := ⟨h7_⟩
     have NB165_189 : Aside0 (gb165 ≠ gb189) := ⟨h8_⟩
     have NB189_165 : Aside0 (gb189 ≠ gb165) := ⟨h9_⟩
     have NB168_189 : Aside0 (gb168 ≠ gb189) := ⟨h10_⟩
     have NB189_168 : Aside0 (gb189 ≠ gb168) := ⟨h11_⟩
     replace HI0 : Aside0 (IsS106 w0 w26 g s0_0 t176) := ⟨h12_⟩
     replace HK : Aside0 (KeepBut w w26 g none) := ⟨h13_⟩
     replace HB : Aside0 (Below w0.heap.size w0 w26) := ⟨h14_⟩
     clear h0_ h1_ h2_ h3_ h4_ h5_ h6_ h7_ h8_ h9_ h10_ h11_ h12_ h13_ h14_
     have hHeld : w26.cell? ⟨gb168, 0, none⟩ = some (.int .i64 (wrap64 (2 + t166))) ∧ w26.cell? ⟨gb168, 1, none⟩ = some (u169001) := hS_
     refine nm2_ ?_
     refine two_ (i := 11) (j := 14) (Ni := some 27) (Nj := some 30) z98_10 z98_11 rfl rfl rfl rfl (two_of HT_.out (by kernel_rfl)) (by decide) (by decide) (fun K hK => ?_) (fun K hK => ?_)
     ·skip
      refine ls_ 27 3 [0, 1, 2, 5, 9, t175] [.int .i64 0, .int .i64 1, .int .i64 2, .int .i64 5, .int .i64 9, .int .i64 t175] ?_
      intro v178 w27 ho28 hb hg_ hnew_
      clear hg_ hnew_
      (first | rw [← Ny177.out] at ho28 | (simp only [Int.reduceToNat] at ho28; rw [← Ny177.out] at ho28))
      replace HO_169001 := Aside0.mk (rB98 HO_169001.out hb)
      have HO179 := Aside0.mk (Kd.R_lower ho28 (keep_size (w := w) (g := g) (row := none) HK.out))
      replace BK165 := kb_ BK165 hb
      replace BK168 := kb_ BK168 hb
      replace HI0 := Aside0.mk (IsS106.below HI0.out hb)
      replace BK189 := kb_ BK189 hb
      replace HK := Aside0.mk (KeepBut.trans HK.out (KeepBut.of_below hb g none) (.inl rfl))
      replace HB := Aside0.mk (below_step HB.out hb)
      clear hb ho28
      refine hK.out _ _ ⟨ct_ BK168.out 0, ct_ BK168.out 1⟩ (fun hHeld => ?_)
      clear hK K
      refine nm1_ (some 27) ?_
      exact norm_ nn_ (hJ3_7_10_11_19 (v178, gb189) _ ⟨hHeld, HO179.out, HO_169001.out, BK165.out, BK168.out, BK189.out, GW189.out, GE189.out, NB0_189.out, NB189_0.out, NB165_189.out, NB189_165.out, NB168_189.out, NB189_168.out, HI0.out, HK.out, HB.out⟩)
     ·skip
      refine ls_ 30 3 [0, 0, 3, 8] [.int .i64 0, .int .i64 0, .int .i64 3, .int .i64 8] ?_
      intro v183 w27 ho28 hb hg_ hnew_
      clear hg_ hnew_
      (first | rw [← Ny182.out] at ho28 | (simp only [Int.reduceToNat] at ho28; rw [← Ny182.out] at ho28))
      replace HO_169001 := Aside0.mk (rB98 HO_169001.out hb)
      have HO184 := Aside0.mk (Kd.R_lower ho28 (keep_size (w := w) (g := g) (row := none) HK.out))
      replace BK165 := kb_ BK165 hb
      replace BK168 := kb_ BK168 hb
      replace HI0 := Aside0.mk (IsS106.below HI0.out hb)
      replace BK189 := kb_ BK189 hb
      replace HK := Aside0.mk (KeepBut.trans HK.out (KeepBut.of_below hb g none) (.inl rfl))
      replace HB := Aside0.mk (below_step HB.out hb)
      clear hb ho28
      refine hK.out _ _ ⟨ct_ BK168.out 0, ct_ BK168.out 1⟩ (fun hHeld => ?_)
      clear hK K
      refine nm1_ (some 30) ?_
      exact norm_ nn_ (hJ3_7_10_14_19 (v183, gb189) _ ⟨hHeld, HO184.out, HO_169001.out, BK165.out, BK168.out, BK189.out, GW189.out, GE189.out, NB0_189.out, NB189_0.out, NB165_189.out, NB189_165.out, NB168_189.out, NB189_168.out, HI0.out, HK.out, HB.out⟩)
    intro hJ3_7_10_19
    refine join_ (σ := Value × Nat) 7 z98_15 (fun s_ => [(19, .int .i64 t171), (23, .int .i64 t173), (30, s_.1), (5, .pointer (some ⟨s_.2, 0, none⟩))]) (fun s_ w' => (w'.cell? ⟨gb168, 0, none⟩ = some (.int .i64 (wrap64 (2 + t166))) ∧ w'.cell? ⟨gb168, 1, none⟩ = some (u169001)) ∧ (Kd.R (Kd.int .i64) 3 w' w.heap.size (fun _ => True) s_.1 y182) ∧ (Kd.R k37 37 w' w.heap.size (fun k_ => k_ ≠ s_.2) u169001 x169001_1) ∧ (w'.heap[gb165]? = some (.cells #[.int .i64 0, .slice none 0 0] 29 (0, 0))) ∧ (w'.heap[gb168]? = some (.cells #[.int .i64 (wrap64 (2 + t166)), u169001] 29 (0, 0))) ∧ (w'.heap[s_.2]? = some (.cells #[.int .i64 0, .int .i64 0, .int .i64 0, .int .i64 0, .int .i64 0] 37 (0, 0))) ∧ (w.heap.size ≤ s_.2) ∧ (w0.heap.size ≤ s_.2) ∧ (g ≠ s_.2) ∧ (s_.2 ≠ g) ∧ (gb165 ≠ s_.2) ∧ (s_.2 ≠ gb165) ∧ (gb168 ≠ s_.2) ∧ (s_.2 ≠ gb168) ∧ (IsS106 w0 w' g s0_0 t174) ∧ (KeepBut w w' g none) ∧ (Below w0.heap.size w0 w')) ?_ ?_
    ·skip
     rintro ⟨v183, gb189⟩ w27 ⟨hS_, h0_, h1_, h2_, h3_, h4_, h5_, h6_, h7_, h8_, h9_, h10_, h11_, h12_, h13_, h14_, h15_⟩
     have HO184 : Aside0 (Kd.R (Kd.int .i64) 3 w27 w.heap.size (fun _ => True) v183 y182) := ⟨h0_⟩
     replace HO_169001 : Aside0 (Kd.R k37 37 w27 w.heap.size (fun k_ => k_ ≠ gb189) u169001 x169001_1) := ⟨h1_⟩
     replace BK165 : Aside0 (w27.heap[gb165]? = some (.cells #[.int .i64 0, .slice none 0 0] 29 (0, 0))) := ⟨h2_⟩
     replace BK168 : Aside0 (w27.heap[gb168]? = some (.cells #[.int .i64 (wrap64 (2 + t166)), u169001] 29 (0, 0))) := ⟨h3_⟩
     have BK189 : Aside0 (w27.heap[gb189]? = some (.cells #[.int .i64 0, .int .i64 0, .int .i64 0, .int .i64 0, .int .i64 0] 37 (0, 0))) := ⟨h4_⟩
     have GW189 : Aside0 (w.heap.size ≤ gb189) := ⟨h5_⟩
     have GE189 : Aside0 (w0.heap.size ≤ gb189) := ⟨h6_⟩
     have NB0_189 : Aside0 (g ≠ gb189) := ⟨h7_⟩
     have NB189_0 : Aside0 (gb189 ≠ g) := ⟨h8_⟩
     have NB165_189 : Aside0 (gb165 ≠ gb189) := ⟨h9_⟩
     have NB189_165 : Aside0 (gb189 ≠ gb165) := ⟨h10_⟩
     have NB168_189 : Aside0 (gb168 ≠ gb189) := ⟨h11_⟩
     have NB189_168 : Aside0 (gb189 ≠ gb168) := ⟨h12_⟩
     replace HI0 : Aside0 (IsS106 w0 w27 g s0_0 t174) := ⟨h13_⟩
     replace HK : Aside0 (KeepBut w w27 g none) := ⟨h14_⟩
     replace HB : Aside0 (Below w0.heap.size w0 w27) := ⟨h15_⟩
     clear h0_ h1_ h2_ h3_ h4_ h5_ h6_ h7_ h8_ h9_ h10_ h11_ h12_ h13_ h14_ h15_
     have hHeld : w27.cell? ⟨gb168, 0, none⟩ = some (.int .i64 (wrap64 (2 + t166))) ∧ w27.cell? ⟨gb168, 1, none⟩ = some (u169001) := hS_
     refine nm2_ ?_
     refine one_ (i := 10) (N := some 26) z98_11 rfl rfl (one_of HT_.out (by kernel_rfl)) (by decide) (fun K hK => ?_)
     refine go_ Try.func88 #[.pointer (some ⟨g, 0, none⟩), .int .i64 100] ?_
     with_reducible refine (spec_l30Rd_pick.calls k1 g s0_0 t174 100 t175 t176 w0 _ ?side1 ?side2 A14.out).mono ?_
     (case side1 => exact HI0.out)
     (case side2 => exact HB.out)
     rintro e w28 ⟨rfl, hi, hb, hk⟩
     refine ⟨_, rfl, ?_⟩
     replace HO_169001 := Aside0.mk (Kd.R_mono (Kd.R_keep (IsS106.apart (show IsS106 w0 _ g s0_0 t174 from ni106_98 HI0.out) HO_169001.out (by decide)) hk (fun _ h => h.2)) (fun _ h => h.1))
     replace BK165 := kk_ BK165 hk NB165_0
     replace BK168 := kk_ BK168 hk NB168_0
     replace HO184 := Aside0.mk (Kd.R_mono (Kd.R_keep (IsS106.apart (show IsS106 w0 _ g s0_0 t174 from ni106_98 HI0.out) HO184.out (by decide)) hk (fun _ h => h.2)) (fun _ h => h.1))
     replace BK189 := kk_ BK189 hk NB189_0
     replace HK := Aside0.mk (KeepBut.trans HK.out hk (.inl rfl))
     replace HB := Aside0.mk (hb)
     replace HI0 := Aside0.mk (hi)
     (try clear hb)
     (try clear hb2)
     (try clear hk)
     (try clear hi)
     refine hK.out _ _ ⟨ct_ BK168.out 0, ct_ BK168.out 1⟩ (fun hHeld => ?_)
     clear hK K
     refine nm1_ (some 26) ?_
     exact norm_ nn_ (hJ3_7_10_14_19 (v183, gb189) _ ⟨hHeld, HO184.out, HO_169001.out, BK165.out, BK168.out, BK189.out, GW189.out, GE189.out, NB0_189.out, NB189_0.out, NB165_189.out, NB189_165.out, NB168_189.out, NB189_168.out, HI0.out, HK.out, HB.out⟩)
    intro hJ3_7_14_19
    refine join_ (σ := Unit) 8 z98_16 (fun s_ => [(19, .int .i64 t171), (23, .int .i64 t173), (26, .int .i64 t175)]) (fun s_ w' => (w'.cell? ⟨gb168, 0, none⟩ = some (.int .i64 (wrap64 (2 + t166))) ∧ w'.cell? ⟨gb168, 1, none⟩ = some (u169001)) ∧ (Kd.R k37 37 w' w.heap.size (fun _ => True) u169001 x169001_1) ∧ (w'.heap[gb165]? = some (.cells #[.int .i64 0, .slice none 0 0] 29 (0, 0))) ∧ (w'.heap[gb168]? = some (.cells #[.int .i64 (wrap64 (2 + t166)), u169001] 29 (0, 0))) ∧ (IsS106 w0 w' g s0_0 t176) ∧ (KeepBut w w' g none) ∧ (Below w0.heap.size w0 w')) ?_ ?_
    ·skip
     rintro _ w25 ⟨hS_, h0_, h1_, h2_, h3_, h4_, h5_⟩
     replace HO_169001 : Aside0 (Kd.R k37 37 w25 w.heap.size (fun _ => True) u169001 x169001_1) := ⟨h0_⟩
     replace BK165 : Aside0 (w25.heap[gb165]? = some (.cells #[.int .i64 0, .slice none 0 0] 29 (0, 0))) := ⟨h1_⟩
     replace BK168 : Aside0 (w25.heap[gb168]? = some (.cells #[.int .i64 (wrap64 (2 + t166)), u169001] 29 (0, 0))) := ⟨h2_⟩
     replace HI0 : Aside0 (IsS106 w0 w25 g s0_0 t176) := ⟨h3_⟩
     replace HK : Aside0 (KeepBut w w25 g none) := ⟨h4_⟩
     replace HB : Aside0 (Below w0.heap.size w0 w25) := ⟨h5_⟩
     clear h0_ h1_ h2_ h3_ h4_ h5_
     have hHeld : w25.cell? ⟨gb168, 0, none⟩ = some (.int .i64 (wrap64 (2 + t166))) ∧ w25.cell? ⟨gb168, 1, none⟩ = some (u169001) := hS_
     refine nm2_ ?_
     refine three_ (i := 11) (j := 14) (k := 19) (Ni := some 27) (Nj := some 30) (Nk := some 5) z98_12 z98_13 z98_14 rfl rfl rfl rfl rfl rfl (three_of HT_.out (by kernel_rfl)) (by decide) (by decide) (by decide) (fun K hK => ?_) (fun K hK => ?_) (fun K hK => ?_)
     ·skip
      refine ls_ 27 3 [0, 1, 2, 5, 9, t175] [.int .i64 0, .int .i64 1, .int .i64 2, .int .i64 5, .int .i64 9, .int .i64 t175] ?_
      intro v178 w26 ho27 hb hg_ hnew_
      clear hg_ hnew_
      (first | rw [← Ny177.out] at ho27 | (simp only [Int.reduceToNat] at ho27; rw [← Ny177.out] at ho27))
      replace HO_169001 := Aside0.mk (rB98 HO_169001.out hb)
      have HO179 := Aside0.mk (Kd.R_lower ho27 (keep_size (w := w) (g := g) (row := none) HK.out))
      replace BK165 := kb_ BK165 hb
      replace BK168 := kb_ BK168 hb
      replace HI0 := Aside0.mk (IsS106.below HI0.out hb)
      replace HK := Aside0.mk (KeepBut.trans HK.out (KeepBut.of_below hb g none) (.inl rfl))
      replace HB := Aside0.mk (below_step HB.out hb)
      clear hb ho27
      refine hK.out _ _ ⟨ct_ BK168.out 0, ct_ BK168.out 1⟩ (fun hHeld => ?_)
      clear hK K
      refine nm1_ (some 27) ?_
      exact norm_ nn_ (hJ3_7_10_11 (v178) _ ⟨hHeld, HO179.out, HO_169001.out, BK165.out, BK168.out, HI0.out, HK.out, HB.out⟩)
     ·skip
      refine ls_ 30 3 [0, 0, 3, 8] [.int .i64 0, .int .i64 0, .int .i64 3, .int .i64 8] ?_
      intro v183 w26 ho27 hb hg_ hnew_
      clear hg_ hnew_
      (first | rw [← Ny182.out] at ho27 | (simp only [Int.reduceToNat] at ho27; rw [← Ny182.out] at ho27))
      replace HO_169001 := Aside0.mk (rB98 HO_169001.out hb)
      have HO184 := Aside0.mk (Kd.R_lower ho27 (keep_size (w := w) (g := g) (row := none) HK.out))
      replace BK165 := kb_ BK165 hb
      replace BK168 := kb_ BK168 hb
      replace HI0 := Aside0.mk (IsS106.below HI0.out hb)
      replace HK := Aside0.mk (KeepBut.trans HK.out (KeepBut.of_below hb g none) (.inl rfl))
      replace HB := Aside0.mk (below_step HB.out hb)
      clear hb ho27
      refine hK.out _ _ ⟨ct_ BK168.out 0, ct_ BK168.out 1⟩ (fun hHeld => ?_)
      clear hK K
      refine nm1_ (some 30) ?_
      exact norm_ nn_ (hJ3_7_10_14 (v183) _ ⟨hHeld, HO184.out, HO_169001.out, BK165.out, BK168.out, HI0.out, HK.out, HB.out⟩)
     ·skip
      refine bs_ 5 #[.int .i64 0, .int .i64 0, .int .i64 0, .int .i64 0, .int .i64 0] 37 ?_
      intro gb189 hg w26 hbox hb
      replace HO_169001 := Aside0.mk (rB98 (Kd.R_elderB HO_169001.out gb189 (Nat.le_of_eq hg.symm)) hb)
      replace HB := Aside0.mk (below_step HB.out hb)
      have BK189 := Aside0.mk (hbox)
      have GW189 := Aside0.mk ((by rw [hg]; exact (keep_size (w := w) (g := g) (row := none) HK.out) : w.heap.size ≤ gb189))
      have GE189 := Aside0.mk ((Nat.le_trans HW0.out (by rw [hg]; exact (keep_size (w := w) (g := g) (row := none) HK.out) : w.heap.size ≤ gb189) : w0.heap.size ≤ gb189))
      replace HK := Aside0.mk (KeepBut.trans HK.out (KeepBut.of_below hb g none) (.inl rfl))
      have NB165_189 := Aside0.mk (nl_ BK165.out hg)
      have NB189_165 := Aside0.mk (nm_ BK165.out hg)
      replace BK165 := kb_ BK165 hb
      have NB168_189 := Aside0.mk (nl_ BK168.out hg)
      have NB189_168 := Aside0.mk (nm_ BK168.out hg)
      replace BK168 := kb_ BK168 hb
      have NB0_189 := Aside0.mk ((by rw [hg]; exact Nat.ne_of_lt (IsS106.lt (show IsS106 w0 _ g s0_0 t176 from ni106_98 HI0.out)) : g ≠ gb189))
      have NB189_0 := Aside0.mk ((by rw [hg]; exact Nat.ne_of_gt (IsS106.lt (show IsS106 w0 _ g s0_0 t176 from ni106_98 HI0.out)) : gb189 ≠ g))
      replace HI0 := Aside0.mk (IsS106.below HI0.out hb)
      clear hb hbox hg
      refine hK.out _ _ ⟨ct_ BK168.out 0, ct_ BK168.out 1⟩ (fun hHeld => ?_)
      clear hK K
      refine nm1_ (some 5) ?_
      exact norm_ nn_ (hJ3_7_10_19 (gb189) _ ⟨hHeld, (by (with_reducible repeat (first | apply rA98 | apply rN98 | apply Kd.R_drew)); exact Kd.R_mono HO_169001.out (fun _ hk => by first | exact hk.2 | trivial | simp_all)), BK165.out, BK168.out, BK189.out, GW189.out, GE189.out, NB0_189.out, NB189_0.out, NB165_189.out, NB189_165.out, NB168_189.out, NB189_168.out, HI0.out, HK.out, HB.out⟩)
    intro hJ3_7_10
    refine join_ (σ := Value) 8 z98_17 (fun s_ => [(19, .int .i64 t171), (23, .int .i64 t173), (30, s_)]) (fun s_ w' => (w'.cell? ⟨gb168, 0, none⟩ = some (.int .i64 (wrap64 (2 + t166))) ∧ w'.cell? ⟨gb168, 1, none⟩ = some (u169001)) ∧ (Kd.R (Kd.int .i64) 3 w' w.heap.size (fun _ => True) s_ y182) ∧ (Kd.R k37 37 w' w.heap.size (fun _ => True) u169001 x169001_1) ∧ (w'.heap[gb165]? = some (.cells #[.int .i64 0, .slice none 0 0] 29 (0, 0))) ∧ (w'.heap[gb168]? = some (.cells #[.int .i64 (wrap64 (2 + t166)), u169001] 29 (0, 0))) ∧ (IsS106 w0 w' g s0_0 t174) ∧ (KeepBut w w' g none) ∧ (Below w0.heap.size w0 w')) ?_ ?_
    ·skip
     rintro v183 w26 ⟨hS_, h0_, h1_, h2_, h3_, h4_, h5_, h6_⟩
     have HO184 : Aside0 (Kd.R (Kd.int .i64) 3 w26 w.heap.size (fun _ => True) v183 y182) := ⟨h0_⟩
     replace HO_169001 : Aside0 (Kd.R k37 37 w26 w.heap.size (fun _ => True) u169001 x169001_1) := ⟨h1_⟩
     replace BK165 : Aside0 (w26.heap[gb165]? = some (.cells #[.int .i64 0, .slice none 0 0] 29 (0, 0))) := ⟨h2_⟩
     replace BK168 : Aside0 (w26.heap[gb168]? = some (.cells #[.int .i64 (wrap64 (2 + t166)), u169001] 29 (0, 0))) := ⟨h3_⟩
     replace HI0 : Aside0 (IsS106 w0 w26 g s0_0 t174) := ⟨h4_⟩
     replace HK : Aside0 (KeepBut w w26 g none) := ⟨h5_⟩
     replace HB : Aside0 (Below w0.heap.size w0 w26) := ⟨h6_⟩
     clear h0_ h1_ h2_ h3_ h4_ h5_ h6_
     have hHeld : w26.cell? ⟨gb168, 0, none⟩ = some (.int .i64 (wrap64 (2 + t166))) ∧ w26.cell? ⟨gb168, 1, none⟩ = some (u169001) := hS_
     refine nm2_ ?_
     refine two_ (i := 10) (j := 19) (Ni := some 26) (Nj := some 5) z98_13 z98_15 rfl rfl rfl rfl (two_of HT_.out (by kernel_rfl)) (by decide) (by decide) (fun K hK => ?_) (fun K hK => ?_)
     ·skip
      refine go_ Try.func88 #[.pointer (some ⟨g, 0, none⟩), .int .i64 100] ?_
      with_reducible refine (spec_l30Rd_pick.calls k1 g s0_0 t174 100 t175 t176 w0 _ ?side1 ?side2 A14.out).mono ?_
      (case side1 => exact HI0.out)
      (case side2 => exact HB.out)
      rintro e w27 ⟨rfl, hi, hb, hk⟩
      refine ⟨_, rfl, ?_⟩
      replace HO_169001 := Aside0.mk (Kd.R_mono (Kd.R_keep (IsS106.apart (show IsS106 w0 _ g s0_0 t174 from ni106_98 HI0.out) HO_169001.out (by decide)) hk (fun _ h => h.2)) (fun _ h => h.1))
      replace BK165 := kk_ BK165 hk NB165_0
      replace BK168 := kk_ BK168 hk NB168_0
      replace HO184 := Aside0.mk (Kd.R_mono (Kd.R_keep (IsS106.apart (show IsS106 w0 _ g s0_0 t174 from ni106_98 HI0.out) HO184.out (by decide)) hk (fun _ h => h.2)) (fun _ h => h.1))
      replace HK := Aside0.mk (KeepBut.trans HK.out hk (.inl rfl))
      replace HB := Aside0.mk (hb)
      replace HI0 := Aside0.mk (hi)
      (try clear hb)
      (try clear hb2)
      (try clear hk)
      (try clear hi)
      refine hK.out _ _ ⟨ct_ BK168.out 0, ct_ BK168.out 1⟩ (fun hHeld => ?_)
      clear hK K
      refine nm1_ (some 26) ?_
      exact norm_ nn_ (hJ3_7_10_14 (v183) _ ⟨hHeld, HO184.out, HO_169001.out, BK165.out, BK168.out, HI0.out, HK.out, HB.out⟩)
     ·skip
      refine bs_ 5 #[.int .i64 0, .int .i64 0, .int .i64 0, .int .i64 0, .int .i64 0] 37 ?_
      intro gb189 hg w27 hbox hb
      replace HO_169001 := Aside0.mk (rB98 (Kd.R_elderB HO_169001.out gb189 (Nat.le_of_eq hg.symm)) hb)
      replace HO184 := Aside0.mk (rB98 HO184.out hb)
      replace HB := Aside0.mk (below_step HB.out hb)
      have BK189 := Aside0.mk (hbox)
      have GW189 := Aside0.mk ((by rw [hg]; exact (keep_size (w := w) (g := g) (row := none) HK.out) : w.heap.size ≤ gb189))
      have GE189 := Aside0.mk ((Nat.le_trans HW0.out (by rw [hg]; exact (keep_size (w := w) (g := g) (row := none) HK.out) : w.heap.size ≤ gb189) : w0.heap.size ≤ gb189))
      replace HK := Aside0.mk (KeepBut.trans HK.out (KeepBut.of_below hb g none) (.inl rfl))
      have NB165_189 := Aside0.mk (nl_ BK165.out hg)
      have NB189_165 := Aside0.mk (nm_ BK165.out hg)
      replace BK165 := kb_ BK165 hb
      have NB168_189 := Aside0.mk (nl_ BK168.out hg)
      have NB189_168 := Aside0.mk (nm_ BK168.out hg)
      replace BK168 := kb_ BK168 hb
      have NB0_189 := Aside0.mk ((by rw [hg]; exact Nat.ne_of_lt (IsS106.lt (show IsS106 w0 _ g s0_0 t174 from ni106_98 HI0.out)) : g ≠ gb189))
      have NB189_0 := Aside0.mk ((by rw [hg]; exact Nat.ne_of_gt (IsS106.lt (show IsS106 w0 _ g s0_0 t174 from ni106_98 HI0.out)) : gb189 ≠ g))
      replace HI0 := Aside0.mk (IsS106.below HI0.out hb)
      clear hb hbox hg
      refine hK.out _ _ ⟨ct_ BK168.out 0, ct_ BK168.out 1⟩ (fun hHeld => ?_)
      clear hK K
      refine nm1_ (some 5) ?_
      exact norm_ nn_ (hJ3_7_14_19 (v183, gb189) _ ⟨hHeld, HO184.out, (by (with_reducible repeat (first | apply rA98 | apply rN98 | apply Kd.R_drew)); exact Kd.R_mono HO_169001.out (fun _ hk => by first | exact hk.2 | trivial | simp_all)), BK165.out, BK168.out, BK189.out, GW189.out, GE189.out, NB0_189.out, NB189_0.out, NB165_189.out, NB189_165.out, NB168_189.out, NB189_168.out, HI0.out, HK.out, HB.out⟩)
    intro hJ3_7_14
    refine join_ (σ := Nat) 8 z98_18 (fun s_ => [(19, .int .i64 t171), (23, .int .i64 t173), (5, .pointer (some ⟨s_, 0, none⟩))]) (fun s_ w' => (w'.cell? ⟨gb168, 0, none⟩ = some (.int .i64 (wrap64 (2 + t166))) ∧ w'.cell? ⟨gb168, 1, none⟩ = some (u169001)) ∧ (Kd.R k37 37 w' w.heap.size (fun k_ => k_ ≠ s_) u169001 x169001_1) ∧ (w'.heap[gb165]? = some (.cells #[.int .i64 0, .slice none 0 0] 29 (0, 0))) ∧ (w'.heap[gb168]? = some (.cells #[.int .i64 (wrap64 (2 + t166)), u169001] 29 (0, 0))) ∧ (w'.heap[s_]? = some (.cells #[.int .i64 0, .int .i64 0, .int .i64 0, .int .i64 0, .int .i64 0] 37 (0, 0))) ∧ (w.heap.size ≤ s_) ∧ (w0.heap.size ≤ s_) ∧ (g ≠ s_) ∧ (s_ ≠ g) ∧ (gb165 ≠ s_) ∧ (s_ ≠ gb165) ∧ (gb168 ≠ s_) ∧ (s_ ≠ gb168) ∧ (IsS106 w0 w' g s0_0 t174) ∧ (KeepBut w w' g none) ∧ (Below w0.heap.size w0 w')) ?_ ?_
    ·skip
     rintro gb189 w25 ⟨hS_, h0_, h1_, h2_, h3_, h4_, h5_, h6_, h7_, h8_, h9_, h10_, h11_, h12_, h13_, h14_⟩
     replace HO_169001 : Aside0 (Kd.R k37 37 w25 w.heap.size (fun k_ => k_ ≠ gb189) u169001 x169001_1) := ⟨h0_⟩
     replace BK165 : Aside0 (w25.heap[gb165]? = some (.cells #[.int .i64 0, .slice none 0 0] 29 (0, 0))) := ⟨h1_⟩
     replace BK168 : Aside0 (w25.heap[gb168]? = some (.cells #[.int .i64 (wrap64 (2 + t166)), u169001] 29 (0, 0))) := ⟨h2_⟩
     have BK189 : Aside0 (w25.heap[gb189]? = some (.cells #[.int .i64 0, .int .i64 0, .int .i64 0, .int .i64 0, .int .i64 0] 37 (0, 0))) := ⟨h3_⟩
     have GW189 : Aside0 (w.heap.size ≤ gb189) := ⟨h4_⟩
     have GE189 : Aside0 (w0.heap.size ≤ gb189) := ⟨h5_⟩
     have NB0_189 : Aside0 (g ≠ gb189) := ⟨h6_⟩
     have NB189_0 : Aside0 (gb189 ≠ g) := ⟨h7_⟩
     have NB165_189 : Aside0 (gb165 ≠ gb189) := ⟨h8_⟩
     have NB189_165 : Aside0 (gb189 ≠ gb165) := ⟨h9_⟩
     have NB168_189 : Aside0 (gb168 ≠ gb189) := ⟨h10_⟩
     have NB189_168 : Aside0 (gb189 ≠ gb168) := ⟨h11_⟩
     replace HI0 : Aside0 (IsS106 w0 w25 g s0_0 t174) := ⟨h12_⟩
     replace HK : Aside0 (KeepBut w w25 g none) := ⟨h13_⟩
     replace HB : Aside0 (Below w0.heap.size w0 w25) := ⟨h14_⟩
     clear h0_ h1_ h2_ h3_ h4_ h5_ h6_ h7_ h8_ h9_ h10_ h11_ h12_ h13_ h14_
     have hHeld : w25.cell? ⟨gb168, 0, none⟩ = some (.int .i64 (wrap64 (2 + t166))) ∧ w25.cell? ⟨gb168, 1, none⟩ = some (u169001) := hS_
     refine nm2_ ?_
     refine two_ (i := 10) (j := 14) (Ni := some 26) (Nj := some 30) z98_14 z98_15 rfl rfl rfl rfl (two_of HT_.out (by kernel_rfl)) (by decide) (by decide) (fun K hK => ?_) (fun K hK => ?_)
     ·skip
      refine go_ Try.func88 #[.pointer (some ⟨g, 0, none⟩), .int .i64 100] ?_
      with_reducible refine (spec_l30Rd_pick.calls k1 g s0_0 t174 100 t175 t176 w0 _ ?side1 ?side2 A14.out).mono ?_
      (case side1 => exact HI0.out)
      (case side2 => exact HB.out)
      rintro e w26 ⟨rfl, hi, hb, hk⟩
      refine ⟨_, rfl, ?_⟩
      replace HO_169001 := Aside0.mk (Kd.R_mono (Kd.R_keep (IsS106.apart (show IsS106 w0 _ g s0_0 t174 from ni106_98 HI0.out) HO_169001.out (by decide)) hk (fun _ h => h.2)) (fun _ h => h.1))
      replace BK165 := kk_ BK165 hk NB165_0
      replace BK168 := kk_ BK168 hk NB168_0
      replace BK189 := kk_ BK189 hk NB189_0
      replace HK := Aside0.mk (KeepBut.trans HK.out hk (.inl rfl))
      replace HB := Aside0.mk (hb)
      replace HI0 := Aside0.mk (hi)
      (try clear hb)
      (try clear hb2)
      (try clear hk)
      (try clear hi)
      refine hK.out _ _ ⟨ct_ BK168.out 0, ct_ BK168.out 1⟩ (fun hHeld => ?_)
      clear hK K
      refine nm1_ (some 26) ?_
      exact norm_ nn_ (hJ3_7_10_19 (gb189) _ ⟨hHeld, HO_169001.out, BK165.out, BK168.out, BK189.out, GW189.out, GE189.out, NB0_189.out, NB189_0.out, NB165_189.out, NB189_165.out, NB168_189.out, NB189_168.out, HI0.out, HK.out, HB.out⟩)
     ·skip
      refine ls_ 30 3 [0, 0, 3, 8] [.int .i64 0, .int .i64 0, .int .i64 3, .int .i64 8] ?_
      intro v183 w26 ho27 hb hg_ hnew_
      clear hg_ hnew_
      (first | rw [← Ny182.out] at ho27 | (simp only [Int.reduceToNat] at ho27; rw [← Ny182.out] at ho27))
      replace HO_169001 := Aside0.mk (rB98 HO_169001.out hb)
      have HO184 := Aside0.mk (Kd.R_lower ho27 (keep_size (w := w) (g := g) (row := none) HK.out))
      replace BK165 := kb_ BK165 hb
      replace BK168 := kb_ BK168 hb
      replace HI0 := Aside0.mk (IsS106.below HI0.out hb)
      replace BK189 := kb_ BK189 hb
      replace HK := Aside0.mk (KeepBut.trans HK.out (KeepBut.of_below hb g none) (.inl rfl))
      replace HB := Aside0.mk (below_step HB.out hb)
      clear hb ho27
      refine hK.out _ _ ⟨ct_ BK168.out 0, ct_ BK168.out 1⟩ (fun hHeld => ?_)
      clear hK K
      refine nm1_ (some 30) ?_
      exact norm_ nn_ (hJ3_7_14_19 (v183, gb189) _ ⟨hHeld, HO184.out, HO_169001.out, BK165.out, BK168.out, BK189.out, GW189.out, GE189.out, NB0_189.out, NB189_0.out, NB165_189.out, NB189_165.out, NB168_189.out, NB189_168.out, HI0.out, HK.out, HB.out⟩)
    intro hJ3_7_19
    refine join_ (σ := Value × Nat) 8 z98_19 (fun s_ => [(19, .int .i64 t171), (30, s_.1), (5, .pointer (some ⟨s_.2, 0, none⟩))]) (fun s_ w' => (w'.cell? ⟨gb168, 0, none⟩ = some (.int .i64 (wrap64 (2 + t166))) ∧ w'.cell? ⟨gb168, 1, none⟩ = some (u169001)) ∧ (Kd.R (Kd.int .i64) 3 w' w.heap.size (fun _ => True) s_.1 y182) ∧ (Kd.R k37 37 w' w.heap.size (fun k_ => k_ ≠ s_.2) u169001 x169001_1) ∧ (w'.heap[gb165]? = some (.cells #[.int .i64 0, .slice none 0 0] 29 (0, 0))) ∧ (w'.heap[gb168]? = some (.cells #[.int .i64 (wrap64 (2 + t166)), u169001] 29 (0, 0))) ∧ (w'.heap[s_.2]? = some (.cells #[.int .i64 0, .int .i64 0, .int .i64 0, .int .i64 0, .int .i64 0] 37 (0, 0))) ∧ (w.heap.size ≤ s_.2) ∧ (w0.heap.size ≤ s_.2) ∧ (g ≠ s_.2) ∧ (s_.2 ≠ g) ∧ (gb165 ≠ s_.2) ∧ (s_.2 ≠ gb165) ∧ (gb168 ≠ s_.2) ∧ (s_.2 ≠ gb168) ∧ (IsS106 w0 w' g s0_0 t172) ∧ (KeepBut w w' g none) ∧ (Below w0.heap.size w0 w')) ?_ ?_
    ·skip
     rintro ⟨v183, gb189⟩ w26 ⟨hS_, h0_, h1_, h2_, h3_, h4_, h5_, h6_, h7_, h8_, h9_, h10_, h11_, h12_, h13_, h14_, h15_⟩
     have HO184 : Aside0 (Kd.R (Kd.int .i64) 3 w26 w.heap.size (fun _ => True) v183 y182) := ⟨h0_⟩
     replace HO_169001 : Aside0 (Kd.R k37 37 w26 w.heap.size (fun k_ => k_ ≠ gb189) u169001 x169001_1) := ⟨h1_⟩
     replace BK165 : Aside0 (w26.heap[gb165]? = some (.cells #[.int .i64 0, .slice none 0 0] 29 (0, 0))) := ⟨h2_⟩
     replace BK168 : Aside0 (w26.heap[gb168]? = some (.cells #[.int .i64 (wrap64 (2 + t166)), u169001] 29 (0, 0))) := ⟨h3_⟩
     have BK189 : Aside0 (w26.heap[gb189]? = some (.cells #[.int .i64 0, .int .i64 0, .int .i64 0, .int .i64 0, .int .i64 0] 37 (0, 0))) := ⟨h4_⟩
     have GW189 : Aside0 (w.heap.size ≤ gb189) := ⟨h5_⟩
     have GE189 : Aside0 (w0.heap.size ≤ gb189) := ⟨h6_⟩
     have NB0_189 : Aside0 (g ≠ gb189) := ⟨h7_⟩
     have NB189_0 : Aside0 (gb189 ≠ g) := ⟨h8_⟩
     have NB165_189 : Aside0 (gb165 ≠ gb189) := ⟨h9_⟩
     have NB189_165 : Aside0 (gb189 ≠ gb165) := ⟨h10_⟩
     have NB168_189 : Aside0 (gb168 ≠ gb189) := ⟨h11_⟩
     have NB189_168 : Aside0 (gb189 ≠ gb168) := ⟨h12_⟩
     replace HI0 : Aside0 (IsS106 w0 w26 g s0_0 t172) := ⟨h13_⟩
     replace HK : Aside0 (KeepBut w w26 g none) := ⟨h14_⟩
     replace HB : Aside0 (Below w0.heap.size w0 w26) := ⟨h15_⟩
     clear h0_ h1_ h2_ h3_ h4_ h5_ h6_ h7_ h8_ h9_ h10_ h11_ h12_ h13_ h14_ h15_
     have hHeld : w26.cell? ⟨gb168, 0, none⟩ = some (.int .i64 (wrap64 (2 + t166))) ∧ w26.cell? ⟨gb168, 1, none⟩ = some (u169001) := hS_
     refine nm2_ ?_
     refine one_ (i := 7) (N := some 23) z98_15 rfl rfl (one_of HT_.out (by kernel_rfl)) (by decide) (fun K hK => ?_)
     refine go_ Try.func88 #[.pointer (some ⟨g, 0, none⟩), .int .i64 (wrap64 (2 + t166))] ?_
     with_reducible refine (spec_l30Rd_pick.calls k1 g s0_0 t172 (wrap64 (2 + t166)) t173 t174 w0 _ ?side1 ?side2 A13.out).mono ?_
     (case side1 => exact HI0.out)
     (case side2 => exact HB.out)
     rintro e w27 ⟨rfl, hi, hb, hk⟩
     refine ⟨_, rfl, ?_⟩
     replace HO_169001 := Aside0.mk (Kd.R_mono (Kd.R_keep (IsS106.apart (show IsS106 w0 _ g s0_0 t172 from ni106_98 HI0.out) HO_169001.out (by decide)) hk (fun _ h => h.2)) (fun _ h => h.1))
     replace BK165 := kk_ BK165 hk NB165_0
     replace BK168 := kk_ BK168 hk NB168_0
     replace HO184 := Aside0.mk (Kd.R_mono (Kd.R_keep (IsS106.apart (show IsS106 w0 _ g s0_0 t172 from ni106_98 HI0.out) HO184.out (by decide)) hk (fun _ h => h.2)) (fun _ h => h.1))
     replace BK189 := kk_ BK189 hk NB189_0
     replace HK := Aside0.mk (KeepBut.trans HK.out hk (.inl rfl))
     replace HB := Aside0.mk (hb)
     replace HI0 := Aside0.mk (hi)
     (try clear hb)
     (try clear hb2)
     (try clear hk)
     (try clear hi)
     refine hK.out _ _ ⟨ct_ BK168.out 0, ct_ BK168.out 1⟩ (fun hHeld => ?_)
     clear hK K
     refine nm1_ (some 23) ?_
     exact norm_ nn_ (hJ3_7_14_19 (v183, gb189) _ ⟨hHeld, HO184.out, HO_169001.out, BK165.out, BK168.out, BK189.out, GW189.out, GE189.out, NB0_189.out, NB189_0.out, NB165_189.out, NB189_165.out, NB168_189.out, NB189_168.out, HI0.out, HK.out, HB.out⟩)
    intro hJ3_14_19
    refine join_ (σ := Unit) 9 z98_20 (fun s_ => [(19, .int .i64 t171), (23, .int .i64 t173)]) (fun s_ w' => (w'.cell? ⟨gb168, 0, none⟩ = some (.int .i64 (wrap64 (2 + t166))) ∧ w'.cell? ⟨gb168, 1, none⟩ = some (u169001)) ∧ (Kd.R k37 37 w' w.heap.size (fun _ => True) u169001 x169001_1) ∧ (w'.heap[gb165]? = some (.cells #[.int .i64 0, .slice none 0 0] 29 (0, 0))) ∧ (w'.heap[gb168]? = some (.cells #[.int .i64 (wrap64 (2 + t166)), u169001] 29 (0, 0))) ∧ (IsS106 w0 w' g s0_0 t174) ∧ (KeepBut w w' g none) ∧ (Below w0.heap.size w0 w')) ?_ ?_
    ·skip
     rintro _ w24 ⟨hS_, h0_, h1_, h2_, h3_, h4_, h5_⟩
     replace HO_169001 : Aside0 (Kd.R k37 37 w24 w.heap.size (fun _ => True) u169001 x169001_1) := ⟨h0_⟩
     replace BK165 : Aside0 (w24.heap[gb165]? = some (.cells #[.int .i64 0, .slice none 0 0] 29 (0, 0))) := ⟨h1_⟩
     replace BK168 : Aside0 (w24.heap[gb168]? = some (.cells #[.int .i64 (wrap64 (2 + t166)), u169001] 29 (0, 0))) := ⟨h2_⟩
     replace HI0 : Aside0 (IsS106 w0 w24 g s0_0 t174) := ⟨h3_⟩
     replace HK : Aside0 (KeepBut w w24 g none) := ⟨h4_⟩
     replace HB : Aside0 (Below w0.heap.size w0 w24) := ⟨h5_⟩
     clear h0_ h1_ h2_ h3_ h4_ h5_
     have hHeld : w24.cell? ⟨gb168, 0, none⟩ = some (.int .i64 (wrap64 (2 + t166))) ∧ w24.cell? ⟨gb168, 1, none⟩ = some (u169001) := hS_
     refine nm2_ ?_
     refine three_ (i := 10) (j := 14) (k := 19) (Ni := some 26) (Nj := some 30) (Nk := some 5) z98_16 z98_17 z98_18 rfl rfl rfl rfl rfl rfl (three_of HT_.out (by kernel_rfl)) (by decide) (by decide) (by decide) (fun K hK => ?_) (fun K hK => ?_) (fun K hK => ?_)
     ·skip
      refine go_ Try.func88 #[.pointer (some ⟨g, 0, none⟩), .int .i64 100] ?_
      with_reducible refine (spec_l30Rd_pick.calls k1 g s0_0 t174 100 t175 t176 w0 _ ?side1 ?side2 A14.out).mono ?_
      (case side1 => exact HI0.out)
      (case side2 => exact HB.out)
      rintro e w25 ⟨rfl, hi, hb, hk⟩
      refine ⟨_, rfl, ?_⟩
      replace HO_169001 := Aside0.mk (Kd.R_mono (Kd.R_keep (IsS106.apart (show IsS106 w0 _ g s0_0 t174 from ni106_98 HI0.out) HO_169001.out (by decide)) hk (fun _ h => h.2)) (fun _ h => h.1))
      replace BK165 := kk_ BK165 hk NB165_0
      replace BK168 := kk_ BK168 hk NB168_0
      replace HK := Aside0.mk (KeepBut.trans HK.out hk (.inl rfl))
      replace HB := Aside0.mk (hb)
      replace HI0 := Aside0.mk (hi)
      (try clear hb)
      (try clear hb2)
      (try clear hk)
      (try clear hi)
      refine hK.out _ _ ⟨ct_ BK168.out 0, ct_ BK168.out 1⟩ (fun hHeld => ?_)
      clear hK K
      refine nm1_ (some 26) ?_
      exact norm_ nn_ (hJ3_7_10 () _ ⟨hHeld, HO_169001.out, BK165.out, BK168.out, HI0.out, HK.out, HB.out⟩)
     ·skip
      refine ls_ 30 3 [0, 0, 3, 8] [.int .i64 0, .int .i64 0, .int .i64 3, .int .i64 8] ?_
      intro v183 w25 ho26 hb hg_ hnew_
      clear hg_ hnew_
      (first | rw [← Ny182.out] at ho26 | (simp only [Int.reduceToNat] at ho26; rw [← Ny182.out] at ho26))
      replace HO_169001 := Aside0.mk (rB98 HO_169001.out hb)
      have HO184 := Aside0.mk (Kd.R_lower ho26 (keep_size (w := w) (g := g) (row := none) HK.out))
      replace BK165 := kb_ BK165 hb
      replace BK168 := kb_ BK168 hb
      replace HI0 := Aside0.mk (IsS106.below HI0.out hb)
      replace HK := Aside0.mk (KeepBut.trans HK.out (KeepBut.of_below hb g none) (.inl rfl))
      replace HB := Aside0.mk (below_step HB.out hb)
      clear hb ho26
      refine hK.out _ _ ⟨ct_ BK168.out 0, ct_ BK168.out 1⟩ (fun hHeld => ?_)
      clear hK K
      refine nm1_ (some 30) ?_
      exact norm_ nn_ (hJ3_7_14 (v183) _ ⟨hHeld, HO184.out, HO_169001.out, BK165.out, BK168.out, HI0.out, HK.out, HB.out⟩)
     ·skip
      refine bs_ 5 #[.int .i64 0, .int .i64 0, .int .i64 0, .int .i64 0, .int .i64 0] 37 ?_
      intro gb189 hg w25 hbox hb
      replace HO_169001 := Aside0.mk (rB98 (Kd.R_elderB HO_169001.out gb189 (Nat.le_of_eq hg.symm)) hb)
      replace HB := Aside0.mk (below_step HB.out hb)
      have BK189 := Aside0.mk (hbox)
      have GW189 := Aside0.mk ((by rw [hg]; exact (keep_size (w := w) (g := g) (row := none) HK.out) : w.heap.size ≤ gb189))
      have GE189 := Aside0.mk ((Nat.le_trans HW0.out (by rw [hg]; exact (keep_size (w := w) (g := g) (row := none) HK.out) : w.heap.size ≤ gb189) : w0.heap.size ≤ gb189))
      replace HK := Aside0.mk (KeepBut.trans HK.out (KeepBut.of_below hb g none) (.inl rfl))
      have NB165_189 := Aside0.mk (nl_ BK165.out hg)
      have NB189_165 := Aside0.mk (nm_ BK165.out hg)
      replace BK165 := kb_ BK165 hb
      have NB168_189 := Aside0.mk (nl_ BK168.out hg)
      have NB189_168 := Aside0.mk (nm_ BK168.out hg)
      replace BK168 := kb_ BK168 hb
      have NB0_189 := Aside0.mk ((by rw [hg]; exact Nat.ne_of_lt (IsS106.lt (show IsS106 w0 _ g s0_0 t174 from ni106_98 HI0.out)) : g ≠ gb189))
      have NB189_0 := Aside0.mk ((by rw [hg]; exact Nat.ne_of_gt (IsS106.lt (show IsS106 w0 _ g s0_0 t174 from ni106_98 HI0.out)) : gb189 ≠ g))
      replace HI0 := Aside0.mk (IsS106.below HI0.out hb)
      clear hb hbox hg
      refine hK.out _ _ ⟨ct_ BK168.out 0, ct_ BK168.out 1⟩ (fun hHeld => ?_)
      clear hK K
      refine nm1_ (some 5) ?_
      exact norm_ nn_ (hJ3_7_19 (gb189) _ ⟨hHeld, (by (with_reducible repeat (first | apply rA98 | apply rN98 | apply Kd.R_drew)); exact Kd.R_mono HO_169001.out (fun _ hk => by first | exact hk.2 | trivial | simp_all)), BK165.out, BK168.out, BK189.out, GW189.out, GE189.out, NB0_189.out, NB189_0.out, NB165_189.out, NB189_165.out, NB168_189.out, NB189_168.out, HI0.out, HK.out, HB.out⟩)
    intro hJ3_7
    refine join_ (σ := Value) 9 z98_21 (fun s_ => [(19, .int .i64 t171), (30, s_)]) (fun s_ w' => (w'.cell? ⟨gb168, 0, none⟩ = some (.int .i64 (wrap64 (2 + t166))) ∧ w'.cell? ⟨gb168, 1, none⟩ = some (u169001)) ∧ (Kd.R (Kd.int .i64) 3 w' w.heap.size (fun _ => True) s_ y182) ∧ (Kd.R k37 37 w' w.heap.size (fun _ => True) u169001 x169001_1) ∧ (w'.heap[gb165]? = some (.cells #[.int .i64 0, .slice none 0 0] 29 (0, 0))) ∧ (w'.heap[gb168]? = some (.cells #[.int .i64 (wrap64 (2 + t166)), u169001] 29 (0, 0))) ∧ (IsS106 w0 w' g s0_0 t172) ∧ (KeepBut w w' g none) ∧ (Below w0.heap.size w0 w')) ?_ ?_
    ·skip
     rintro v183 w25 ⟨hS_, h0_, h1_, h2_, h3_, h4_, h5_, h6_⟩
     have HO184 : Aside0 (Kd.R (Kd.int .i64) 3 w25 w.heap.size (fun _ => True) v183 y182) := ⟨h0_⟩
     replace HO_169001 : Aside0 (Kd.R k37 37 w25 w.heap.size (fun _ => True) u169001 x169001_1) := ⟨h1_⟩
     replace BK165 : Aside0 (w25.heap[gb165]? = some (.cells #[.int .i64 0, .slice none 0 0] 29 (0, 0))) := ⟨h2_⟩
     replace BK168 : Aside0 (w25.heap[gb168]? = some (.cells #[.int .i64 (wrap64 (2 + t166)), u169001] 29 (0, 0))) := ⟨h3_⟩
     replace HI0 : Aside0 (IsS106 w0 w25 g s0_0 t172) := ⟨h4_⟩
     replace HK : Aside0 (KeepBut w w25 g none) := ⟨h5_⟩
     replace HB : Aside0 (Below w0.heap.size w0 w25) := ⟨h6_⟩
     clear h0_ h1_ h2_ h3_ h4_ h5_ h6_
     have hHeld : w25.cell? ⟨gb168, 0, none⟩ = some (.int .i64 (wrap64 (2 + t166))) ∧ w25.cell? ⟨gb168, 1, none⟩ = some (u169001) := hS_
     refine nm2_ ?_
     refine two_ (i := 7) (j := 19) (Ni := some 23) (Nj := some 5) z98_17 z98_19 rfl rfl rfl rfl (two_of HT_.out (by kernel_rfl)) (by decide) (by decide) (fun K hK => ?_) (fun K hK => ?_)
     ·skip
      refine go_ Try.func88 #[.pointer (some ⟨g, 0, none⟩), .int .i64 (wrap64 (2 + t166))] ?_
      with_reducible refine (spec_l30Rd_pick.calls k1 g s0_0 t172 (wrap64 (2 + t166)) t173 t174 w0 _ ?side1 ?side2 A13.out).mono ?_
      (case side1 => exact HI0.out)
      (case side2 => exact HB.out)
      rintro e w26 ⟨rfl, hi, hb, hk⟩
      refine ⟨_, rfl, ?_⟩
      replace HO_169001 := Aside0.mk (Kd.R_mono (Kd.R_keep (IsS106.apart (show IsS106 w0 _ g s0_0 t172 from ni106_98 HI0.out) HO_169001.out (by decide)) hk (fun _ h => h.2)) (fun _ h => h.1))
      replace BK165 := kk_ BK165 hk NB165_0
      replace BK168 := kk_ BK168 hk NB168_0
      replace HO184 := Aside0.mk (Kd.R_mono (Kd.R_keep (IsS106.apart (show IsS106 w0 _ g s0_0 t172 from ni106_98 HI0.out) HO184.out (by decide)) hk (fun _ h => h.2)) (fun _ h => h.1))
      replace HK := Aside0.mk (KeepBut.trans HK.out hk (.inl rfl))
      replace HB := Aside0.mk (hb)
      replace HI0 := Aside0.mk (hi)
      (try clear hb)
      (try clear hb2)
      (try clear hk)
      (try clear hi)
      refine hK.out _ _ ⟨ct_ BK168.out 0, ct_ BK168.out 1⟩ (fun hHeld => ?_)
      clear hK K
      refine nm1_ (some 23) ?_
      exact norm_ nn_ (hJ3_7_14 (v183) _ ⟨hHeld, HO184.out, HO_169001.out, BK165.out, BK168.out, HI0.out, HK.out, HB.out⟩)
     ·skip
      refine bs_ 5 #[.int .i64 0, .int .i64 0, .int .i64 0, .int .i64 0, .int .i64 0] 37 ?_
      intro gb189 hg w26 hbox hb
      replace HO_169001 := Aside0.mk (rB98 (Kd.R_elderB HO_169001.out gb189 (Nat.le_of_eq hg.symm)) hb)
      replace HO184 := Aside0.mk (rB98 HO184.out hb)
      replace HB := Aside0.mk (below_step HB.out hb)
      have BK189 := Aside0.mk (hbox)
      have GW189 := Aside0.mk ((by rw [hg]; exact (keep_size (w := w) (g := g) (row := none) HK.out) : w.heap.size ≤ gb189))
      have GE189 := Aside0.mk ((Nat.le_trans HW0.out (by rw [hg]; exact (keep_size (w := w) (g := g) (row := none) HK.out) : w.heap.size ≤ gb189) : w0.heap.size ≤ gb189))
      replace HK := Aside0.mk (KeepBut.trans HK.out (KeepBut.of_below hb g none) (.inl rfl))
      have NB165_189 := Aside0.mk (nl_ BK165.out hg)
      have NB189_165 := Aside0.mk (nm_ BK165.out hg)
      replace BK165 := kb_ BK165 hb
      have NB168_189 := Aside0.mk (nl_ BK168.out hg)
      have NB189_168 := Aside0.mk (nm_ BK168.out hg)
      replace BK168 := kb_ BK168 hb
      have NB0_189 := Aside0.mk ((by rw [hg]; exact Nat.ne_of_lt (IsS106.lt (show IsS106 w0 _ g s0_0 t172 from ni106_98 HI0.out)) : g ≠ gb189))
      have NB189_0 := Aside0.mk ((by rw [hg]; exact Nat.ne_of_gt (IsS106.lt (show IsS106 w0 _ g s0_0 t172 from ni106_98 HI0.out)) : gb189 ≠ g))
      replace HI0 := Aside0.mk (IsS106.below HI0.out hb)
      clear hb hbox hg
      refine hK.out _ _ ⟨ct_ BK168.out 0, ct_ BK168.out 1⟩ (fun hHeld => ?_)
      clear hK K
      refine nm1_ (some 5) ?_
      exact norm_ nn_ (hJ3_14_19 (v183, gb189) _ ⟨hHeld, HO184.out, (by (with_reducible repeat (first | apply rA98 | apply rN98 | apply Kd.R_drew)); exact Kd.R_mono HO_169001.out (fun _ hk => by first | exact hk.2 | trivial | simp_all)), BK165.out, BK168.out, BK189.out, GW189.out, GE189.out, NB0_189.out, NB189_0.out, NB165_189.out, NB189_165.out, NB168_189.out, NB189_168.out, HI0.out, HK.out, HB.out⟩)
    intro hJ3_14
    refine join_ (σ := Nat) 9 z98_22 (fun s_ => [(19, .int .i64 t171), (5, .pointer (some ⟨s_, 0, none⟩))]) (fun s_ w' => (w'.cell? ⟨gb168, 0, none⟩ = some (.int .i64 (wrap64 (2 + t166))) ∧ w'.cell? ⟨gb168, 1, none⟩ = some (u169001)) ∧ (Kd.R k37 37 w' w.heap.size (fun k_ => k_ ≠ s_) u169001 x169001_1) ∧ (w'.heap[gb165]? = some (.cells #[.int .i64 0, .slice none 0 0] 29 (0, 0))) ∧ (w'.heap[gb168]? = some (.cells #[.int .i64 (wrap64 (2 + t166)), u169001] 29 (0, 0))) ∧ (w'.heap[s_]? = some (.cells #[.int .i64 0, .int .i64 0, .int .i64 0, .int .i64 0, .int .i64 0] 37 (0, 0))) ∧ (w.heap.size ≤ s_) ∧ (w0.heap.size ≤ s_) ∧ (g ≠ s_) ∧ (s_ ≠ g) ∧ (gb165 ≠ s_) ∧ (s_ ≠ gb165) ∧ (gb168 ≠ s_) ∧ (s_ ≠ gb168) ∧ (IsS106 w0 w' g s0_0 t172) ∧ (KeepBut w w' g none) ∧ (Below w0.heap.size w0 w')) ?_ ?_
    ·skip
     rintro gb189 w24 ⟨hS_, h0_, h1_, h2_, h3_, h4_, h5_, h6_, h7_, h8_, h9_, h10_, h11_, h12_, h13_, h14_⟩
     replace HO_169001 : Aside0 (Kd.R k37 37 w24 w.heap.size (fun k_ => k_ ≠ gb189) u169001 x169001_1) := ⟨h0_⟩
     replace BK165 : Aside0 (w24.heap[gb165]? = some (.cells #[.int .i64 0, .slice none 0 0] 29 (0, 0))) := ⟨h1_⟩
     replace BK168 : Aside0 (w24.heap[gb168]? = some (.cells #[.int .i64 (wrap64 (2 + t166)), u169001] 29 (0, 0))) := ⟨h2_⟩
     have BK189 : Aside0 (w24.heap[gb189]? = some (.cells #[.int .i64 0, .int .i64 0, .int .i64 0, .int .i64 0, .int .i64 0] 37 (0, 0))) := ⟨h3_⟩
     have GW189 : Aside0 (w.heap.size ≤ gb189) := ⟨h4_⟩
     have GE189 : Aside0 (w0.heap.size ≤ gb189) := ⟨h5_⟩
     have NB0_189 : Aside0 (g ≠ gb189) := ⟨h6_⟩
     have NB189_0 : Aside0 (gb189 ≠ g) := ⟨h7_⟩
     have NB165_189 : Aside0 (gb165 ≠ gb189) := ⟨h8_⟩
     have NB189_165 : Aside0 (gb189 ≠ gb165) := ⟨h9_⟩
     have NB168_189 : Aside0 (gb168 ≠ gb189) := ⟨h10_⟩
     have NB189_168 : Aside0 (gb189 ≠ gb168) := ⟨h11_⟩
     replace HI0 : Aside0 (IsS106 w0 w24 g s0_0 t172) := ⟨h12_⟩
     replace HK : Aside0 (KeepBut w w24 g none) := ⟨h13_⟩
     replace HB : Aside0 (Below w0.heap.size w0 w24) := ⟨h14_⟩
     clear h0_ h1_ h2_ h3_ h4_ h5_ h6_ h7_ h8_ h9_ h10_ h11_ h12_ h13_ h14_
     have hHeld : w24.cell? ⟨gb168, 0, none⟩ = some (.int .i64 (wrap64 (2 + t166))) ∧ w24.cell? ⟨gb168, 1, none⟩ = some (u169001) := hS_
     refine nm2_ ?_
     refine two_ (i := 7) (j := 14) (Ni := some 23) (Nj := some 30) z98_18 z98_19 rfl rfl rfl rfl (two_of HT_.out (by kernel_rfl)) (by decide) (by decide) (fun K hK => ?_) (fun K hK => ?_)
     ·skip
      refine go_ Try.func88 #[.pointer (some ⟨g, 0, none⟩), .int .i64 (wrap64 (2 + t166))] ?_
      with_reducible refine (spec_l30Rd_pick.calls k1 g s0_0 t172 (wrap64 (2 + t166)) t173 t174 w0 _ ?side1 ?side2 A13.out).mono ?_
      (case side1 => exact HI0.out)
      (case side2 => exact HB.out)
      rintro e w25 ⟨rfl, hi, hb, hk⟩
      refine ⟨_, rfl, ?_⟩
      replace HO_169001 := Aside0.mk (Kd.R_mono (Kd.R_keep (IsS106.apart (show IsS106 w0 _ g s0_0 t172 from ni106_98 HI0.out) HO_169001.out (by decide)) hk (fun _ h => h.2)) (fun _ h => h.1))
      replace BK165 := kk_ BK165 hk NB165_0
      replace BK168 := kk_ BK168 hk NB168_0
      replace BK189 := kk_ BK189 hk NB189_0
      replace HK := Aside0.mk (KeepBut.trans HK.out hk (.inl rfl))
      replace HB := Aside0.mk (hb)
      replace HI0 := Aside0.mk (hi)
      (try clear hb)
      (try clear hb2)
      (try clear hk)
      (try clear hi)
      refine hK.out _ _ ⟨ct_ BK168.out 0, ct_ BK168.out 1⟩ (fun hHeld => ?_)
      clear hK K
      refine nm1_ (some 23) ?_
      exact norm_ nn_ (hJ3_7_19 (gb189) _ ⟨hHeld, HO_169001.out, BK165.out, BK168.out, BK189.out, GW189.out, GE189.out, NB0_189.out, NB189_0.out, NB165_189.out, NB189_165.out, NB168_189.out, NB189_168.out, HI0.out, HK.out, HB.out⟩)
     ·skip
      refine ls_ 30 3 [0, 0, 3, 8] [.int .i64 0, .int .i64 0, .int .i64 3, .int .i64 8] ?_
      intro v183 w25 ho26 hb hg_ hnew_
      clear hg_ hnew_
      (first | rw [← Ny182.out] at ho26 | (simp only [Int.reduceToNat] at ho26; rw [← Ny182.out] at ho26))
      replace HO_169001 := Aside0.mk (rB98 HO_169001.out hb)
      have HO184 := Aside0.mk (Kd.R_lower ho26 (keep_size (w := w) (g := g) (row := none) HK.out))
      replace BK165 := kb_ BK165 hb
      replace BK168 := kb_ BK168 hb
      replace HI0 := Aside0.mk (IsS106.below HI0.out hb)
      replace BK189 := kb_ BK189 hb
      replace HK := Aside0.mk (KeepBut.trans HK.out (KeepBut.of_below hb g none) (.inl rfl))
      replace HB := Aside0.mk (below_step HB.out hb)
      clear hb ho26
      refine hK.out _ _ ⟨ct_ BK168.out 0, ct_ BK168.out 1⟩ (fun hHeld => ?_)
      clear hK K
      refine nm1_ (some 30) ?_
      exact norm_ nn_ (hJ3_14_19 (v183, gb189) _ ⟨hHeld, HO184.out, HO_169001.out, BK165.out, BK168.out, BK189.out, GW189.out, GE189.out, NB0_189.out, NB189_0.out, NB165_189.out, NB189_165.out, NB168_189.out, NB189_168.out, HI0.out, HK.out, HB.out⟩)
    intro hJ3_19
    refine join_ (σ := Value × Nat) 9 z98_23 (fun s_ => [(30, s_.1), (5, .pointer (some ⟨s_.2, 0, none⟩))]) (fun s_ w' => (w'.cell? ⟨gb168, 0, none⟩ = some (.int .i64 (wrap64 (2 + t166))) ∧ w'.cell? ⟨gb168, 1, none⟩ = some (u169001)) ∧ (Kd.R (Kd.int .i64) 3 w' w.heap.size (fun _ => True) s_.1 y182) ∧ (Kd.R k37 37 w' w.heap.size (fun k_ => k_ ≠ s_.2) u169001 x169001_1) ∧ (w'.heap[gb165]? = some (.cells #[.int .i64 0, .slice none 0 0] 29 (0, 0))) ∧ (w'.heap[gb168]? = some (.cells #[.int .i64 (wrap64 (2 + t166)), u169001] 29 (0, 0))) ∧ (w'.heap[s_.2]? = some (.cells #[.int .i64 0, .int .i64 0, .int .i64 0, .int .i64 0, .int .i64 0] 37 (0, 0))) ∧ (w.heap.size ≤ s_.2) ∧ (w0.heap.size ≤ s_.2) ∧ (g ≠ s_.2) ∧ (s_.2 ≠ g) ∧ (gb165 ≠ s_.2) ∧ (s_.2 ≠ gb165) ∧ (gb168 ≠ s_.2) ∧ (s_.2 ≠ gb168) ∧ (IsS106 w0 w' g s0_0 x1001_1) ∧ (KeepBut w w' g none) ∧ (Below w0.heap.size w0 w')) ?_ ?_
    ·skip
     rintro ⟨v183, gb189⟩ w25 ⟨hS_, h0_, h1_, h2_, h3_, h4_, h5_, h6_, h7_, h8_, h9_, h10_, h11_, h12_, h13_, h14_, h15_⟩
     have HO184 : Aside0 (Kd.R (Kd.int .i64) 3 w25 w.heap.size (fun _ => True) v183 y182) := ⟨h0_⟩
     replace HO_169001 : Aside0 (Kd.R k37 37 w25 w.heap.size (fun k_ => k_ ≠ gb189) u169001 x169001_1) := ⟨h1_⟩
     replace BK165 : Aside0 (w25.heap[gb165]? = some (.cells #[.int .i64 0, .slice none 0 0] 29 (0, 0))) := ⟨h2_⟩
     replace BK168 : Aside0 (w25.heap[gb168]? = some (.cells #[.int .i64 (wrap64 (2 + t166)), u169001] 29 (0, 0))) := ⟨h3_⟩
     have BK189 : Aside0 (w25.heap[gb189]? = some (.cells #[.int .i64 0, .int .i64 0, .int .i64 0, .int .i64 0, .int .i64 0] 37 (0, 0))) := ⟨h4_⟩
     have GW189 : Aside0 (w.heap.size ≤ gb189) := ⟨h5_⟩
     have GE189 : Aside0 (w0.heap.size ≤ gb189) := ⟨h6_⟩
     have NB0_189 : Aside0 (g ≠ gb189) := ⟨h7_⟩
     have NB189_0 : Aside0 (gb189 ≠ g) := ⟨h8_⟩
     have NB165_189 : Aside0 (gb165 ≠ gb189) := ⟨h9_⟩
     have NB189_165 : Aside0 (gb189 ≠ gb165) := ⟨h10_⟩
     have NB168_189 : Aside0 (gb168 ≠ gb189) := ⟨h11_⟩
     have NB189_168 : Aside0 (gb189 ≠ gb168) := ⟨h12_⟩
     replace HI0 : Aside0 (IsS106 w0 w25 g s0_0 x1001_1) := ⟨h13_⟩
     replace HK : Aside0 (KeepBut w w25 g none) := ⟨h14_⟩
     replace HB : Aside0 (Below w0.heap.size w0 w25) := ⟨h15_⟩
     clear h0_ h1_ h2_ h3_ h4_ h5_ h6_ h7_ h8_ h9_ h10_ h11_ h12_ h13_ h14_ h15_
     have hHeld : w25.cell? ⟨gb168, 0, none⟩ = some (.int .i64 (wrap64 (2 + t166))) ∧ w25.cell? ⟨gb168, 1, none⟩ = some (u169001) := hS_
     refine nm2_ ?_
     refine one_ (i := 3) (N := some 19) z98_19 rfl rfl (one_of HT_.out (by kernel_rfl)) (by decide) (fun K hK => ?_)
     refine go_ Try.func88 #[.pointer (some ⟨g, 0, none⟩), .int .i64 (wrap64 (2 + t166))] ?_
     with_reducible refine (spec_l30Rd_pick.calls k1 g s0_0 x1001_1 (wrap64 (2 + t166)) t171 t172 w0 _ ?side1 ?side2 A12.out).mono ?_
     (case side1 => exact HI0.out)
     (case side2 => exact HB.out)
     rintro e w26 ⟨rfl, hi, hb, hk⟩
     refine ⟨_, rfl, ?_⟩
     replace HO_169001 := Aside0.mk (Kd.R_mono (Kd.R_keep (IsS106.apart (show IsS106 w0 _ g s0_0 x1001_1 from ni106_98 HI0.out) HO_169001.out (by decide)) hk (fun _ h => h.2)) (fun _ h => h.1))
     replace BK165 := kk_ BK165 hk NB165_0
     replace BK168 := kk_ BK168 hk NB168_0
     replace HO184 := Aside0.mk (Kd.R_mono (Kd.R_keep (IsS106.apart (show IsS106 w0 _ g s0_0 x1001_1 from ni106_98 HI0.out) HO184.out (by decide)) hk (fun _ h => h.2)) (fun _ h => h.1))
     replace BK189 := kk_ BK189 hk NB189_0
     replace HK := Aside0.mk (KeepBut.trans HK.out hk (.inl rfl))
     replace HB := Aside0.mk (hb)
     replace HI0 := Aside0.mk (hi)
     (try clear hb)
     (try clear hb2)
     (try clear hk)
     (try clear hi)
     refine hK.out _ _ ⟨ct_ BK168.out 0, ct_ BK168.out 1⟩ (fun hHeld => ?_)
     clear hK K
     refine nm1_ (some 19) ?_
     exact norm_ nn_ (hJ3_14_19 (v183, gb189) _ ⟨hHeld, HO184.out, HO_169001.out, BK165.out, BK168.out, BK189.out, GW189.out, GE189.out, NB0_189.out, NB189_0.out, NB165_189.out, NB189_165.out, NB168_189.out, NB189_168.out, HI0.out, HK.out, HB.out⟩)
    intro hJ14_19
    refine join_ (σ := Unit) 10 z98_24 (fun s_ => [(19, .int .i64 t171)]) (fun s_ w' => (w'.cell? ⟨gb168, 0, none⟩ = some (.int .i64 (wrap64 (2 + t166))) ∧ w'.cell? ⟨gb168, 1, none⟩ = some (u169001)) ∧ (Kd.R k37 37 w' w.heap.size (fun _ => True) u169001 x169001_1) ∧ (w'.heap[gb165]? = some (.cells #[.int .i64 0, .slice none 0 0] 29 (0, 0))) ∧ (w'.heap[gb168]? = some (.cells #[.int .i64 (wrap64 (2 + t166)), u169001] 29 (0, 0))) ∧ (IsS106 w0 w' g s0_0 t172) ∧ (KeepBut w w' g none) ∧ (Below w0.heap.size w0 w')) ?_ ?_
    ·skip
     rintro _ w23 ⟨hS_, h0_, h1_, h2_, h3_, h4_, h5_⟩
     replace HO_169001 : Aside0 (Kd.R k37 37 w23 w.heap.size (fun _ => True) u169001 x169001_1) := ⟨h0_⟩
     replace BK165 : Aside0 (w23.heap[gb165]? = some (.cells #[.int .i64 0, .slice none 0 0] 29 (0, 0))) := ⟨h1_⟩
     replace BK168 : Aside0 (w23.heap[gb168]? = some (.cells #[.int .i64 (wrap64 (2 + t166)), u169001] 29 (0, 0))) := ⟨h2_⟩
     replace HI0 : Aside0 (IsS106 w0 w23 g s0_0 t172) := ⟨h3_⟩
     replace HK : Aside0 (KeepBut w w23 g none) := ⟨h4_⟩
     replace HB : Aside0 (Below w0.heap.size w0 w23) := ⟨h5_⟩
     clear h0_ h1_ h2_ h3_ h4_ h5_
     have hHeld : w23.cell? ⟨gb168, 0, none⟩ = some (.int .i64 (wrap64 (2 + t166))) ∧ w23.cell? ⟨gb168, 1, none⟩ = some (u169001) := hS_
     refine nm2_ ?_
     refine three_ (i := 7) (j := 14) (k := 19) (Ni := some 23) (Nj := some 30) (Nk := some 5) z98_20 z98_21 z98_22 rfl rfl rfl rfl rfl rfl (three_of HT_.out (by kernel_rfl)) (by decide) (by decide) (by decide) (fun K hK => ?_) (fun K hK => ?_) (fun K hK => ?_)
     ·skip
      refine go_ Try.func88 #[.pointer (some ⟨g, 0, none⟩), .int .i64 (wrap64 (2 + t166))] ?_
      with_reducible refine (spec_l30Rd_pick.calls k1 g s0_0 t172 (wrap64 (2 + t166)) t173 t174 w0 _ ?side1 ?side2 A13.out).mono ?_
      (case side1 => exact HI0.out)
      (case side2 => exact HB.out)
      rintro e w24 ⟨rfl, hi, hb, hk⟩
      refine ⟨_, rfl, ?_⟩
      replace HO_169001 := Aside0.mk (Kd.R_mono (Kd.R_keep (IsS106.apart (show IsS106 w0 _ g s0_0 t172 from ni106_98 HI0.out) HO_169001.out (by decide)) hk (fun _ h => h.2)) (fun _ h => h.1))
      replace BK165 := kk_ BK165 hk NB165_0
      replace BK168 := kk_ BK168 hk NB168_0
      replace HK := Aside0.mk (KeepBut.trans HK.out hk (.inl rfl))
      replace HB := Aside0.mk (hb)
      replace HI0 := Aside0.mk (hi)
      (try clear hb)
      (try clear hb2)
      (try clear hk)
      (try clear hi)
      refine hK.out _ _ ⟨ct_ BK168.out 0, ct_ BK168.out 1⟩ (fun hHeld => ?_)
      clear hK K
      refine nm1_ (some 23) ?_
      exact norm_ nn_ (hJ3_7 () _ ⟨hHeld, HO_169001.out, BK165.out, BK168.out, HI0.out, HK.out, HB.out⟩)
     ·skip
      refine ls_ 30 3 [0, 0, 3, 8] [.int .i64 0, .int .i64 0, .int .i64 3, .int .i64 8] ?_
      intro v183 w24 ho25 hb hg_ hnew_
      clear hg_ hnew_
      (first | rw [← Ny182.out] at ho25 | (simp only [Int.reduceToNat] at ho25; rw [← Ny182.out] at ho25))
      replace HO_169001 := Aside0.mk (rB98 HO_169001.out hb)
      have HO184 := Aside0.mk (Kd.R_lower ho25 (keep_size (w := w) (g := g) (row := none) HK.out))
      replace BK165 := kb_ BK165 hb
      replace BK168 := kb_ BK168 hb
      replace HI0 := Aside0.mk (IsS106.below HI0.out hb)
      replace HK := Aside0.mk (KeepBut.trans HK.out (KeepBut.of_below hb g none) (.inl rfl))
      replace HB := Aside0.mk (below_step HB.out hb)
      clear hb ho25
      refine hK.out _ _ ⟨ct_ BK168.out 0, ct_ BK168.out 1⟩ (fun hHeld => ?_)
      clear hK K
      refine nm1_ (some 30) ?_
      exact norm_ nn_ (hJ3_14 (v183) _ ⟨hHeld, HO184.out, HO_169001.out, BK165.out, BK168.out, HI0.out, HK.out, HB.out⟩)
     ·skip
      refine bs_ 5 #[.int .i64 0, .int .i64 0, .int .i64 0, .int .i64 0, .int .i64 0] 37 ?_
      intro gb189 hg w24 hbox hb
      replace HO_169001 := Aside0.mk (rB98 (Kd.R_elderB HO_169001.out gb189 (Nat.le_of_eq hg.symm)) hb)
      replace HB := Aside0.mk (below_step HB.out hb)
      have BK189 := Aside0.mk (hbox)
      have GW189 := Aside0.mk ((by rw [hg]; exact (keep_size (w := w) (g := g) (row := none) HK.out) : w.heap.size ≤ gb189))
      have GE189 := Aside0.mk ((Nat.le_trans HW0.out (by rw [hg]; exact (keep_size (w := w) (g := g) (row := none) HK.out) : w.heap.size ≤ gb189) : w0.heap.size ≤ gb189))
      replace HK := Aside0.mk (KeepBut.trans HK.out (KeepBut.of_below hb g none) (.inl rfl))
      have NB165_189 := Aside0.mk (nl_ BK165.out hg)
      have NB189_165 := Aside0.mk (nm_ BK165.out hg)
      replace BK165 := kb_ BK165 hb
      have NB168_189 := Aside0.mk (nl_ BK168.out hg)
      have NB189_168 := Aside0.mk (nm_ BK168.out hg)
      replace BK168 := kb_ BK168 hb
      have NB0_189 := Aside0.mk ((by rw [hg]; exact Nat.ne_of_lt (IsS106.lt (show IsS106 w0 _ g s0_0 t172 from ni106_98 HI0.out)) : g ≠ gb189))
      have NB189_0 := Aside0.mk ((by rw [hg]; exact Nat.ne_of_gt (IsS106.lt (show IsS106 w0 _ g s0_0 t172 from ni106_98 HI0.out)) : gb189 ≠ g))
      replace HI0 := Aside0.mk (IsS106.below HI0.out hb)
      clear hb hbox hg
      refine hK.out _ _ ⟨ct_ BK168.out 0, ct_ BK168.out 1⟩ (fun hHeld => ?_)
      clear hK K
      refine nm1_ (some 5) ?_
      exact norm_ nn_ (hJ3_19 (gb189) _ ⟨hHeld, (by (with_reducible repeat (first | apply rA98 | apply rN98 | apply Kd.R_drew)); exact Kd.R_mono HO_169001.out (fun _ hk => by first | exact hk.2 | trivial | simp_all)), BK165.out, BK168.out, BK189.out, GW189.out, GE189.out, NB0_189.out, NB189_0.out, NB165_189.out, NB189_165.out, NB168_189.out, NB189_168.out, HI0.out, HK.out, HB.out⟩)
    intro hJ3
    refine join_ (σ := Value) 10 z98_25 (fun s_ => [(30, s_)]) (fun s_ w' => (w'.cell? ⟨gb168, 0, none⟩ = some (.int .i64 (wrap64 (2 + t166))) ∧ w'.cell? ⟨gb168, 1, none⟩ = some (u169001)) ∧ (Kd.R (Kd.int .i64) 3 w' w.heap.size (fun _ => True) s_ y182) ∧ (Kd.R k37 37 w' w.heap.size (fun _ => True) u169001 x169001_1) ∧ (w'.heap[gb165]? = some (.cells #[.int .i64 0, .slice none 0 0] 29 (0, 0))) ∧ (w'.heap[gb168]? = some (.cells #[.int .i64 (wrap64 (2 + t166)), u169001] 29 (0, 0))) ∧ (IsS106 w0 w' g s0_0 x1001_1) ∧ (KeepBut w w' g none) ∧ (Below w0.heap.size w0 w')) ?_ ?_
    ·skip
     rintro v183 w24 ⟨hS_, h0_, h1_, h2_, h3_, h4_, h5_, h6_⟩
     have HO184 : Aside0 (Kd.R (Kd.int .i64) 3 w24 w.heap.size (fun _ => True) v183 y182) := ⟨h0_⟩
     replace HO_169001 : Aside0 (Kd.R k37 37 w24 w.heap.size (fun _ => True) u169001 x169001_1) := ⟨h1_⟩
     replace BK165 : Aside0 (w24.heap[gb165]? = some (.cells #[.int .i64 0, .slice none 0 0] 29 (0, 0))) := ⟨h2_⟩
     replace BK168 : Aside0 (w24.heap[gb168]? = some (.cells #[.int .i64 (wrap64 (2 + t166)), u169001] 29 (0, 0))) := ⟨h3_⟩
     replace HI0 : Aside0 (IsS106 w0 w24 g s0_0 x1001_1) := ⟨h4_⟩
     replace HK : Aside0 (KeepBut w w24 g none) := ⟨h5_⟩
     replace HB : Aside0 (Below w0.heap.size w0 w24) := ⟨h6_⟩
     clear h0_ h1_ h2_ h3_ h4_ h5_ h6_
     have hHeld : w24.cell? ⟨gb168, 0, none⟩ = some (.int .i64 (wrap64 (2 + t166))) ∧ w24.cell? ⟨gb168, 1, none⟩ = some (u169001) := hS_
     refine nm2_ ?_
     refine two_ (i := 3) (j := 19) (Ni := some 19) (Nj := some 5) z98_21 z98_23 rfl rfl rfl rfl (two_of HT_.out (by kernel_rfl)) (by decide) (by decide) (fun K hK => ?_) (fun K hK => ?_)
     ·skip
      refine go_ Try.func88 #[.pointer (some ⟨g, 0, none⟩), .int .i64 (wrap64 (2 + t166))] ?_
      with_reducible refine (spec_l30Rd_pick.calls k1 g s0_0 x1001_1 (wrap64 (2 + t166)) t171 t172 w0 _ ?side1 ?side2 A12.out).mono ?_
      (case side1 => exact HI0.out)
      (case side2 => exact HB.out)
      rintro e w25 ⟨rfl, hi, hb, hk⟩
      refine ⟨_, rfl, ?_⟩
      replace HO_169001 := Aside0.mk (Kd.R_mono (Kd.R_keep (IsS106.apart (show IsS106 w0 _ g s0_0 x1001_1 from ni106_98 HI0.out) HO_169001.out (by decide)) hk (fun _ h => h.2)) (fun _ h => h.1))
      replace BK165 := kk_ BK165 hk NB165_0
      replace BK168 := kk_ BK168 hk NB168_0
      replace HO184 := Aside0.mk (Kd.R_mono (Kd.R_keep (IsS106.apart (show IsS106 w0 _ g s0_0 x1001_1 from ni106_98 HI0.out) HO184.out (by decide)) hk (fun _ h => h.2)) (fun _ h => h.1))
      replace HK := Aside0.mk (KeepBut.trans HK.out hk (.inl rfl))
      replace HB := Aside0.mk (hb)
      replace HI0 := Aside0.mk (hi)
      (try clear hb)
      (try clear hb2)
      (try clear hk)
      (try clear hi)
      refine hK.out _ _ ⟨ct_ BK168.out 0, ct_ BK168.out 1⟩ (fun hHeld => ?_)
      clear hK K
      refine nm1_ (some 19) ?_
      exact norm_ nn_ (hJ3_14 (v183) _ ⟨hHeld, HO184.out, HO_169001.out, BK165.out, BK168.out, HI0.out, HK.out, HB.out⟩)
     ·skip
      refine bs_ 5 #[.int .i64 0, .int .i64 0, .int .i64 0, .int .i64 0, .int .i64 0] 37 ?_
      intro gb189 hg w25 hbox hb
      replace HO_169001 := Aside0.mk (rB98 (Kd.R_elderB HO_169001.out gb189 (Nat.le_of_eq hg.symm)) hb)
      replace HO184 := Aside0.mk (rB98 HO184.out hb)
      replace HB := Aside0.mk (below_step HB.out hb)
      have BK189 := Aside0.mk (hbox)
      have GW189 := Aside0.mk ((by rw [hg]; exact (keep_size (w := w) (g := g) (row := none) HK.out) : w.heap.size ≤ gb189))
      have GE189 := Aside0.mk ((Nat.le_trans HW0.out (by rw [hg]; exact (keep_size (w := w) (g := g) (row := none) HK.out) : w.heap.size ≤ gb189) : w0.heap.size ≤ gb189))
      replace HK := Aside0.mk (KeepBut.trans HK.out (KeepBut.of_below hb g none) (.inl rfl))
      have NB165_189 := Aside0.mk (nl_ BK165.out hg)
      have NB189_165 := Aside0.mk (nm_ BK165.out hg)
      replace BK165 := kb_ BK165 hb
      have NB168_189 := Aside0.mk (nl_ BK168.out hg)
      have NB189_168 := Aside0.mk (nm_ BK168.out hg)
      replace BK168 := kb_ BK168 hb
      have NB0_189 := Aside0.mk ((by rw [hg]; exact Nat.ne_of_lt (IsS106.lt (show IsS106 w0 _ g s0_0 x1001_1 from ni106_98 HI0.out)) : g ≠ gb189))
      have NB189_0 := Aside0.mk ((by rw [hg]; exact Nat.ne_of_gt (IsS106.lt (show IsS106 w0 _ g s0_0 x1001_1 from ni106_98 HI0.out)) : gb189 ≠ g))
      replace HI0 := Aside0.mk (IsS106.below HI0.out hb)
      clear hb hbox hg
      refine hK.out _ _ ⟨ct_ BK168.out 0, ct_ BK168.out 1⟩ (fun hHeld => ?_)
      clear hK K
      refine nm1_ (some 5) ?_
      exact norm_ nn_ (hJ14_19 (v183, gb189) _ ⟨hHeld, HO184.out, (by (with_reducible repeat (first | apply rA98 | apply rN98 | apply Kd.R_drew)); exact Kd.R_mono HO_169001.out (fun _ hk => by first | exact hk.2 | trivial | simp_all)), BK165.out, BK168.out, BK189.out, GW189.out, GE189.out, NB0_189.out, NB189_0.out, NB165_189.out, NB189_165.out, NB168_189.out, NB189_168.out, HI0.out, HK.out, HB.out⟩)
    intro hJ14
    refine join_ (σ := Nat) 10 z98_26 (fun s_ => [(5, .pointer (some ⟨s_, 0, none⟩))]) (fun s_ w' => (w'.cell? ⟨gb168, 0, none⟩ = some (.int .i64 (wrap64 (2 + t166))) ∧ w'.cell? ⟨gb168, 1, none⟩ = some (u169001)) ∧ (Kd.R k37 37 w' w.heap.size (fun k_ => k_ ≠ s_) u169001 x169001_1) ∧ (w'.heap[gb165]? = some (.cells #[.int .i64 0, .slice none 0 0] 29 (0, 0))) ∧ (w'.heap[gb168]? = some (.cells #[.int .i64 (wrap64 (2 + t166)), u169001] 29 (0, 0))) ∧ (w'.heap[s_]? = some (.cells #[.int .i64 0, .int .i64 0, .int .i64 0, .int .i64 0, .int .i64 0] 37 (0, 0))) ∧ (w.heap.size ≤ s_) ∧ (w0.heap.size ≤ s_) ∧ (g ≠ s_) ∧ (s_ ≠ g) ∧ (gb165 ≠ s_) ∧ (s_ ≠ gb165) ∧ (gb168 ≠ s_) ∧ (s_ ≠ gb168) ∧ (IsS106 w0 w' g s0_0 x1001_1) ∧ (KeepBut w w' g none) ∧ (Below w0.heap.size w0 w')) ?_ ?_
    ·skip
     rintro gb189 w23 ⟨hS_, h0_, h1_, h2_, h3_, h4_, h5_, h6_, h7_, h8_, h9_, h10_, h11_, h12_, h13_, h14_⟩
     replace HO_169001 : Aside0 (Kd.R k37 37 w23 w.heap.size (fun k_ => k_ ≠ gb189) u169001 x169001_1) := ⟨h0_⟩
     replace BK165 : Aside0 (w23.heap[gb165]? = some (.cells #[.int .i64 0, .slice none 0 0] 29 (0, 0))) := ⟨h1_⟩
     replace BK168 : Aside0 (w23.heap[gb168]? = some (.cells #[.int .i64 (wrap64 (2 + t166)), u169001] 29 (0, 0))) := ⟨h2_⟩
     have BK189 : Aside0 (w23.heap[gb189]? = some (.cells #[.int .i64 0, .int .i64 0, .int .i64 0, .int .i64 0, .int .i64 0] 37 (0, 0))) := ⟨h3_⟩
     have GW189 : Aside0 (w.heap.size ≤ gb189) := ⟨h4_⟩
     have GE189 : Aside0 (w0.heap.size ≤ gb189) := ⟨h5_⟩
     have NB0_189 : Aside0 (g ≠ gb189) := ⟨h6_⟩
     have NB189_0 : Aside0 (gb189 ≠ g) := ⟨h7_⟩
     have NB165_189 : Aside0 (gb165 ≠ gb189) := ⟨h8_⟩
     have NB189_165 : Aside0 (gb189 ≠ gb165) := ⟨h9_⟩
     have NB168_189 : Aside0 (gb168 ≠ gb189) := ⟨h10_⟩
     have NB189_168 : Aside0 (gb189 ≠ gb168) := ⟨h11_⟩
     replace HI0 : Aside0 (IsS106 w0 w23 g s0_0 x1001_1) := ⟨h12_⟩
     replace HK : Aside0 (KeepBut w w23 g none) := ⟨h13_⟩
     replace HB : Aside0 (Below w0.heap.size w0 w23) := ⟨h14_⟩
     clear h0_ h1_ h2_ h3_ h4_ h5_ h6_ h7_ h8_ h9_ h10_ h11_ h12_ h13_ h14_
     have hHeld : w23.cell? ⟨gb168, 0, none⟩ = some (.int .i64 (wrap64 (2 + t166))) ∧ w23.cell? ⟨gb168, 1, none⟩ = some (u169001) := hS_
     refine nm2_ ?_
     refine two_ (i := 3) (j := 14) (Ni := some 19) (Nj := some 30) z98_22 z98_23 rfl rfl rfl rfl (two_of HT_.out (by kernel_rfl)) (by decide) (by decide) (fun K hK => ?_) (fun K hK => ?_)
     ·skip
      refine go_ Try.func88 #[.pointer (some ⟨g, 0, none⟩), .int .i64 (wrap64 (2 + t166))] ?_
      with_reducible refine (spec_l30Rd_pick.calls k1 g s0_0 x1001_1 (wrap64 (2 + t166)) t171 t172 w0 _ ?side1 ?side2 A12.out).mono ?_
      (case side1 => exact HI0.out)
      (case side2 => exact HB.out)
      rintro e w24 ⟨rfl, hi, hb, hk⟩
      refine ⟨_, rfl, ?_⟩
      replace HO_169001 := Aside0.mk (Kd.R_mono (Kd.R_keep (IsS106.apart (show IsS106 w0 _ g s0_0 x1001_1 from ni106_98 HI0.out) HO_169001.out (by decide)) hk (fun _ h => h.2)) (fun _ h => h.1))
      replace BK165 := kk_ BK165 hk NB165_0
      replace BK168 := kk_ BK168 hk NB168_0
      replace BK189 := kk_ BK189 hk NB189_0
      replace HK := Aside0.mk (KeepBut.trans HK.out hk (.inl rfl))
      replace HB := Aside0.mk (hb)
      replace HI0 := Aside0.mk (hi)
      (try clear hb)
      (try clear hb2)
      (try clear hk)
      (try clear hi)
      refine hK.out _ _ ⟨ct_ BK168.out 0, ct_ BK168.out 1⟩ (fun hHeld => ?_)
      clear hK K
      refine nm1_ (some 19) ?_
      exact norm_ nn_ (hJ3_19 (gb189) _ ⟨hHeld, HO_169001.out, BK165.out, BK168.out, BK189.out, GW189.out, GE189.out, NB0_189.out, NB189_0.out, NB165_189.out, NB189_165.out, NB168_189.out, NB189_168.out, HI0.out, HK.out, HB.out⟩)
     ·skip
      refine ls_ 30 3 [0, 0, 3, 8] [.int .i64 0, .int .i64 0, .int .i64 3, .int .i64 8] ?_
      intro v183 w24 ho25 hb hg_ hnew_
      clear hg_ hnew_
      (first | rw [← Ny182.out] at ho25 | (simp only [Int.reduceToNat] at ho25; rw [← Ny182.out] at ho25))
      replace HO_169001 := Aside0.mk (rB98 HO_169001.out hb)
      have HO184 := Aside0.mk (Kd.R_lower ho25 (keep_size (w := w) (g := g) (row := none) HK.out))
      replace BK165 := kb_ BK165 hb
      replace BK168 := kb_ BK168 hb
      replace HI0 := Aside0.mk (IsS106.below HI0.out hb)
      replace BK189 := kb_ BK189 hb
      replace HK := Aside0.mk (KeepBut.trans HK.out (KeepBut.of_below hb g none) (.inl rfl))
      replace HB := Aside0.mk (below_step HB.out hb)
      clear hb ho25
      refine hK.out _ _ ⟨ct_ BK168.out 0, ct_ BK168.out 1⟩ (fun hHeld => ?_)
      clear hK K
      refine nm1_ (some 30) ?_
      exact norm_ nn_ (hJ14_19 (v183, gb189) _ ⟨hHeld, HO184.out, HO_169001.out, BK165.out, BK168.out, BK189.out, GW189.out, GE189.out, NB0_189.out, NB189_0.out, NB165_189.out, NB189_165.out, NB168_189.out, NB189_168.out, HI0.out, HK.out, HB.out⟩)
    intro hJ19
    refine three_ (i := 3) (j := 14) (k := 19) (Ni := some 19) (Nj := some 30) (Nk := some 5) z98_24 z98_25 z98_26 rfl rfl rfl rfl rfl rfl (three_of HT_.out (by kernel_rfl)) (by decide) (by decide) (by decide) (fun K hK => ?_) (fun K hK => ?_) (fun K hK => ?_)
    ·skip
     refine go_ Try.func88 #[.pointer (some ⟨g, 0, none⟩), .int .i64 (wrap64 (2 + t166))] ?_
     with_reducible refine (spec_l30Rd_pick.calls k1 g s0_0 x1001_1 (wrap64 (2 + t166)) t171 t172 w0 _ ?side1 ?side2 A12.out).mono ?_
     (case side1 => exact HI0.out)
     (case side2 => exact HB.out)
     rintro e w22 ⟨rfl, hi, hb, hk⟩
     refine ⟨_, rfl, ?_⟩
     replace HO_169001 := Aside0.mk (Kd.R_mono (Kd.R_keep (IsS106.apart (show IsS106 w0 _ g s0_0 x1001_1 from ni106_98 HI0.out) HO_169001.out (by decide)) hk (fun _ h => h.2)) (fun _ h => h.1))
     replace BK165 := kk_ BK165 hk NB165_0
     replace BK168 := kk_ BK168 hk NB168_0
     replace HK := Aside0.mk (KeepBut.trans HK.out hk (.inl rfl))
     replace HB := Aside0.mk (hb)
     replace HI0 := Aside0.mk (hi)
     (try clear hb)
     (try clear hb2)
     (try clear hk)
     (try clear hi)
     refine hK.out _ _ ⟨ct_ BK168.out 0, ct_ BK168.out 1⟩ (fun hHeld => ?_)
     clear hK K
     refine nm1_ (some 19) ?_
     exact norm_ nn_ (hJ3 () _ ⟨hHeld, HO_169001.out, BK165.out, BK168.out, HI0.out, HK.out, HB.out⟩)
    ·skip
     refine ls_ 30 3 [0, 0, 3, 8] [.int .i64 0, .int .i64 0, .int .i64 3, .int .i64 8] ?_
     intro v183 w22 ho23 hb hg_ hnew_
     clear hg_ hnew_
     (first | rw [← Ny182.out] at ho23 | (simp only [Int.reduceToNat] at ho23; rw [← Ny182.out] at ho23))
     replace HO_169001 := Aside0.mk (rB98 HO_169001.out hb)
     have HO184 := Aside0.mk (Kd.R_lower ho23 (keep_size (w := w) (g := g) (row := none) HK.out))
     replace BK165 := kb_ BK165 hb
     replace BK168 := kb_ BK168 hb
     replace HI0 := Aside0.mk (IsS106.below HI0.out hb)
     replace HK := Aside0.mk (KeepBut.trans HK.out (KeepBut.of_below hb g none) (.inl rfl))
     replace HB := Aside0.mk (below_step HB.out hb)
     clear hb ho23
     refine hK.out _ _ ⟨ct_ BK168.out 0, ct_ BK168.out 1⟩ (fun hHeld => ?_)
     clear hK K
     refine nm1_ (some 30) ?_
     exact norm_ nn_ (hJ14 (v183) _ ⟨hHeld, HO184.out, HO_169001.out, BK165.out, BK168.out, HI0.out, HK.out, HB.out⟩)
    ·skip
     refine bs_ 5 #[.int .i64 0, .int .i64 0, .int .i64 0, .int .i64 0, .int .i64 0] 37 ?_
     intro gb189 hg w22 hbox hb
     replace HO_169001 := Aside0.mk (rB98 (Kd.R_elderB HO_169001.out gb189 (Nat.le_of_eq hg.symm)) hb)
     replace HB := Aside0.mk (below_step HB.out hb)
     have BK189 := Aside0.mk (hbox)
     have GW189 := Aside0.mk ((by rw [hg]; exact (keep_size (w := w) (g := g) (row := none) HK.out) : w.heap.size ≤ gb189))
     have GE189 := Aside0.mk ((Nat.le_trans HW0.out (by rw [hg]; exact (keep_size (w := w) (g := g) (row := none) HK.out) : w.heap.size ≤ gb189) : w0.heap.size ≤ gb189))
     replace HK := Aside0.mk (KeepBut.trans HK.out (KeepBut.of_below hb g none) (.inl rfl))
     have NB165_189 := Aside0.mk (nl_ BK165.out hg)
     have NB189_165 := Aside0.mk (nm_ BK165.out hg)
     replace BK165 := kb_ BK165 hb
     have NB168_189 := Aside0.mk (nl_ BK168.out hg)
     have NB189_168 := Aside0.mk (nm_ BK168.out hg)
     replace BK168 := kb_ BK168 hb
     have NB0_189 := Aside0.mk ((by rw [hg]; exact Nat.ne_of_lt (IsS106.lt (show IsS106 w0 _ g s0_0 x1001_1 from ni106_98 HI0.out)) : g ≠ gb189))
     have NB189_0 := Aside0.mk ((by rw [hg]; exact Nat.ne_of_gt (IsS106.lt (show IsS106 w0 _ g s0_0 x1001_1 from ni106_98 HI0.out)) : gb189 ≠ g))
     replace HI0 := Aside0.mk (IsS106.below HI0.out hb)
     clear hb hbox hg
     refine hK.out _ _ ⟨ct_ BK168.out 0, ct_ BK168.out 1⟩ (fun hHeld => ?_)
     clear hK K
     refine nm1_ (some 5) ?_
     exact norm_ nn_ (hJ19 (gb189) _ ⟨hHeld, (by (with_reducible repeat (first | apply rA98 | apply rN98 | apply Kd.R_drew)); exact Kd.R_mono HO_169001.out (fun _ hk => by first | exact hk.2 | trivial | simp_all)), BK165.out, BK168.out, BK189.out, GW189.out, GE189.out, NB0_189.out, NB189_0.out, NB165_189.out, NB189_165.out, NB168_189.out, NB189_168.out, HI0.out, HK.out, HB.out⟩)
end Go.Proofs.Ytpjmkghmjpbldaa.Print
