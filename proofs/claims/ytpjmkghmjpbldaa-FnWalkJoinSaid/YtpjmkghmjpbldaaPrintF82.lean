-- Made by this session's own program (wip/patch_print.py, over the kit's print). Lean checks it.
import Derived.Test.YtpjmkghmjpbldaaPrint0
import Derived.Test.YtpjmkghmjpbldaaPrintF60
import Derived.Test.YtpjmkghmjpbldaaPrintF88
import Derived.Test.YtpjmkghmjpbldaaPrintF89
import Derived.Test.YtpjmkghmjpbldaaPrintF99
namespace Go.Proofs.Ytpjmkghmjpbldaa.Print
open Go.RowKit Go.Proofs.YtpjmkghmjpbldaaW.PrintWords Go.Proofs.YtpjmkghmjpbldaaW.PrintLast Go.Proofs.YtpjmkghmjpbldaaW.PrintMore Go.Proofs.YtpjmkghmjpbldaaX
attribute [local go_sem] max2_int min2_int max_two min_two max_three min_three max_four min_four   -- for this text's walks alone
set_option linter.unusedVariables false
set_option linter.unusedSimpArgs false

abbrev z82_0 := bm_ 11 0
abbrev z82_1 := bm_ 11 1
abbrev z82_2 := bm_ 11 5
abbrev z82_3 := bm_ 11 13
abbrev z82_4 := bm_ 11 77
theorem ng106_82 {B : Nat} {w W W' : World} (h : Below B w W) (e : Below B w W → Below B w W' := by intro h_; repeat (first | (with_reducible first | exact h_ | apply below_alloc | apply pw_below_drewN | apply below_drew1 | refine below_set ?_ (IsS106.ge (Aside0.out (by with_reducible assumption))) | refine below_set ?_ (Aside0.out (by with_reducible assumption))) | exact h_)) : Below B w W' := e h
theorem ni106_82 {p q : Prop} (h : p) (e : p → q := by intro h_; repeat (first | (with_reducible first | exact h_ | apply IsS106.alloc | apply IsS106.drewN | apply IsS106.drew | apply IsS106.set_1 | refine IsS106.far ?_ (Aside0.out (by with_reducible assumption)) _) | exact h_)) : q := e h
/-! ### spec_l30AnyWalk: function 82 -/
def spec_l30AnyWalk.f (k : Nat) (s0_0 : List Int) (s0_1 : Int) (a1_0 : Int) (l1_1 : List (S37)) : Option (List Int × Int) := (spec_l1Ok.f k a1_0 l1_1).bind fun t592 => (if t592 = true then ((spec_l30Rd_pick.f k s0_0 s0_1 a1_0).bind fun bt596 => ((spec_l30Rd_one.f k s0_0 bt596.2 (([3, 8, 21] : List Int))).bind fun bt601 => ((spec_l30Walk.f k s0_0 bt601.2 a1_0 l1_1 bt596.1 bt601.1).bind fun bt603 => ((spec_l30Rd_pick.f k s0_0 bt603.2 10).bind fun bt607 => (if bt607.1 = 0 then ((spec_l30Rd_pick.f k s0_0 bt607.2 17).bind fun bt609 => (if bt603.1.length < 17592186044416 then (some ((bt603.1 ++ [wrap64 (bt609.1 - 1)]), bt609.2)) else (none))) else (some (bt603.1, bt607.2))))))) else (some ((([0] : List Int)), s0_1)))
theorem spec_l30AnyWalk.mono : ∀ a0 a1 a2 a3 k, LeO (spec_l30AnyWalk.f k a0 a1 a2 a3) (spec_l30AnyWalk.f (k + 1) a0 a1 a2 a3) := by
  intro a0 a1 a2 a3 k
  unfold spec_l30AnyWalk.f
  repeat' first | (with_reducible first | exact spec_l1Ok.mono _ _ _ | exact spec_l30Rd_one.mono _ _ _ _ | exact spec_l30Rd_pick.mono _ _ _ _ | exact spec_l30Walk.mono _ _ _ _ _ _ _ | exact LeO.refl _ | exact LeO.none _ | refine LeO.ite ?_ ?_ | refine LeO.bind ?_ (fun _ => ?_)) | exact spec_l1Ok.mono _ _ _ | exact spec_l30Rd_one.mono _ _ _ _ | exact spec_l30Rd_pick.mono _ _ _ _ | exact spec_l30Walk.mono _ _ _ _ _ _ _ | exact LeO.none _ | refine LeO.ite ?_ ?_ | refine LeO.bind ?_ (fun _ => ?_)
def spec_l30AnyWalk.T3 : Bool × List (List Nat × List Nat) := (true, [([], []), ([], []), ([], []), ([], []), ([3], [3]), ([2, 4], [2, 4]), ([], []), ([], []), ([6, 7, 5], [6, 7]), ([0, 1, 5, 8, 8], [0, 1, 5, 8]), ([9, 9, 0, 1, 2, 3, 4, 5, 6, 7, 8, 9], [9])])
def spec_l30AnyWalk.B3 : List Nat := [0, 0, 0, 0, 8, 28, 0, 0, 252, 511, 1023]
theorem spec_l30AnyWalk.tab3 : rtab .any (opsOf Try.f82 3) = spec_l30AnyWalk.T3 := by kernel_rfl
theorem spec_l30AnyWalk.bits3 : waitsOk spec_l30AnyWalk.T3.2 spec_l30AnyWalk.B3 = true := by kernel_rfl
set_option maxHeartbeats 200000000 in
set_option maxRecDepth 100000 in
theorem spec_l30AnyWalk.calls (k : Nat) (g : Nat) (s0_0 : List Int) (s0_1 : Int) (a1_0 : Int) (A1_1 : Option Addr) (c1_1 : Nat) (l1_1 : List (S37)) (r1 : List Int) (r2 : Int) (w0 w : World) (hI : IsS106 w0 w g s0_0 s0_1) (hB : Below w0.heap.size w0 w) (hr1_1 : ∀ W_, KeepBut w W_ g none → Kd.C k37 W_ A1_1 l1_1.length l1_1) (hc1_1 : l1_1.length ≤ c1_1) (h : spec_l30AnyWalk.f k s0_0 s0_1 a1_0 l1_1 = some (r1, r2)) :
    Calls Try.prog 82 #[.pointer (some ⟨g, 0, none⟩), .agg #[.int .i64 a1_0, .slice A1_1 l1_1.length c1_1]] w fun e w' => ∃ v0_ : Value, e = .returned (v0_) ∧ Kd.R (Kd.int .i64) 3 w' w.heap.size (fun _ => True) v0_ r1 ∧ IsS106 w0 w' g s0_0 r2 ∧ Below w0.heap.size w0 w' ∧ KeepBut w w' g none := by
  have hu29 := Try.underlying29
  have HR1_1 := Aside0.mk hr1_1
  have HC1_1 := Aside0.mk hc1_1
  clear hr1_1 hc1_1
  have HI0 := Aside0.mk hI
  have HK := Aside0.mk (KeepBut.refl w g none)
  have HL := Aside0.mk hB.size
  clear hI
  have HW0 := Aside0.mk hB.size
  have HB := Aside0.mk hB
  clear hB
  have H : ((spec_l1Ok.f k a1_0 l1_1).bind fun t592 => (if t592 = true then ((spec_l30Rd_pick.f k s0_0 s0_1 a1_0).bind fun bt596 => ((spec_l30Rd_one.f k s0_0 bt596.2 (([3, 8, 21] : List Int))).bind fun bt601 => ((spec_l30Walk.f k s0_0 bt601.2 a1_0 l1_1 bt596.1 bt601.1).bind fun bt603 => ((spec_l30Rd_pick.f k s0_0 bt603.2 10).bind fun bt607 => (if bt607.1 = 0 then ((spec_l30Rd_pick.f k s0_0 bt607.2 17).bind fun bt609 => (if bt603.1.length < 17592186044416 then (some ((bt603.1 ++ [wrap64 (bt609.1 - 1)]), bt609.2)) else (none))) else (some (bt603.1, bt607.2))))))) else (some ((([0] : List Int)), s0_1)))) = some (r1, r2) := h
  clear h
  replace H := Option.bind_eq_some_iff.mp H
  obtain ⟨t592, A30, H⟩ := H
  try dsimp only at H
  have A3 := Aside0.mk A30
  clear A30
  by_cases c4 : t592 = true
  rotate_left
  ·replace c4 := Bool.eq_false_iff.mpr c4
   subst c4
   have H1 : (some ((([0] : List Int)), s0_1)) = some (r1, r2) := by rw [if_neg (show ¬ (false = true) by decide)] at H; exact H
   clear H
   have H := H1
   clear H1
   obtain ⟨y593, hy593⟩ : ∃ y_ : List Int, y_ = (([0] : List Int)) := ⟨_, rfl⟩
   replace H : (some (y593, s0_1)) = some (r1, r2) := by first | (rw [hy593]; with_reducible exact H) | (have H2_ := (Option.bind_some _ _).symm.trans H; rw [hy593]; with_reducible exact H2_) | (have H2_ := (Option.bind_some _ _).symm.trans H; with_reducible exact H2_) | with_reducible exact H | (rw [hy593]; exact H) | exact H
   have Ny593 := Aside0.mk hy593
   clear hy593
   simp only [Option.some.injEq, Prod.mk.injEq] at H
   obtain ⟨rfl, rfl⟩ := H
   go_enter Try.func82, Try.ntmps82
   go_wp2_with (first | ((with_reducible refine gate_dst (N := 3) rfl ?_); refine bx_ 3 #[.int .i64 a1_0, .slice A1_1 l1_1.length c1_1] 29 ?_; intro gb591 hg w40 hbox hb; have BK591 := Aside0.mk (hbox); have GW591 := Aside0.mk (zk_ hg (nk_ HK.out)); have GE591 := Aside0.mk ((Nat.le_trans HW0.out (by rw [hg]; exact (keep_size (w := w) (g := g) (row := none) (nk_ HK.out)) : w.heap.size ≤ gb591) : w0.heap.size ≤ gb591)); have NB0_591 := Aside0.mk ((by rw [hg]; exact Nat.ne_of_lt (IsS106.lt (show IsS106 w0 _ g s0_0 s0_1 from ni106_82 HI0.out)) : g ≠ gb591)); have NB591_0 := Aside0.mk ((by rw [hg]; exact Nat.ne_of_gt (IsS106.lt (show IsS106 w0 _ g s0_0 s0_1 from ni106_82 HI0.out)) : gb591 ≠ g)); replace HI0 := Aside0.mk (IsS106.below (ni106_82 HI0.out) hb); replace HK := Aside0.mk (KeepBut.trans (nk_ HK.out) (KeepBut.of_below hb g none) (.inl rfl)); replace HB := Aside0.mk (below_step (ng106_82 HB.out) hb); clear hb hbox hg; have hnb41 := NB591_0.out; have hnc41 := NB0_591.out; obtain ⟨hcz42_0, hcz42_1, hfz42_0, hfz42_1⟩ := cz2_ BK591.out) | ((with_reducible refine gate_callee (f := 60) rfl ?_); refine gl_ (some 7) Try.func60 #[.agg #[.int .i64 a1_0, .slice A1_1 l1_1.length c1_1]] ?_; (with_reducible refine (spec_l1Ok.calls k a1_0 _ _ l1_1 false _ ?side1 ?side2 A3.out).mono ?_); (case side1 => exact Kd.C_foot_now HR1_1.out (nk_ HK.out)); (case side2 => exact HC1_1.out); rintro e w43 ⟨rfl, hb⟩; refine ⟨_, rfl, ?_⟩; replace HI0 := Aside0.mk (IsS106.below (ni106_82 HI0.out) hb); replace BK591 := kb_ BK591 hb; replace HK := Aside0.mk (KeepBut.trans (nk_ HK.out) (KeepBut.of_below hb g none) (.inl rfl)); replace HB := Aside0.mk (below_step (ng106_82 HB.out) hb); (try clear hb); (try clear hb2); (try clear hk); (try clear hi)) | ((with_reducible refine gate_dst (N := 9) rfl ?_); refine li_ 9 3 [0] [.int .i64 0] ?_; intro v594 w44 ho45 hb hg_ hnew_; clear hg_ hnew_; (first | rw [← Ny593.out] at ho45 | (simp only [Int.reduceToNat] at ho45; rw [← Ny593.out] at ho45)); have HO595 := Aside0.mk (Kd.R_lower ho45 (keep_size (w := w) (g := g) (row := none) (nk_ HK.out))); replace HI0 := Aside0.mk (IsS106.below (ni106_82 HI0.out) hb); replace BK591 := kb_ BK591 hb; replace HK := Aside0.mk (KeepBut.trans (nk_ HK.out) (KeepBut.of_below hb g none) (.inl rfl)); replace HB := Aside0.mk (below_step (ng106_82 HB.out) hb); clear hb ho45))
   go_ret
   exact ⟨_, nw_, nr_ HO595.out, ni106_82 HI0.out, by repeat (first | (with_reducible first | exact HB.out | apply below_alloc | apply pw_below_drewN | apply below_drew1 | refine below_set ?_ (IsS106.ge HI0.out) | refine below_set ?_ GE591.out) | exact HB.out), nk_ HK.out⟩

  subst c4
  rw [if_pos rfl] at H
  replace H := Option.bind_eq_some_iff.mp H
  obtain ⟨⟨t596, t597⟩, A50, H⟩ := H
  try dsimp only at H
  have A5 := Aside0.mk A50
  clear A50
  obtain ⟨y598, hy598⟩ : ∃ y_ : List Int, y_ = (([3, 8, 21] : List Int)) := ⟨_, rfl⟩
  replace H : ((spec_l30Rd_one.f k s0_0 t597 y598).bind fun bt601 => ((spec_l30Walk.f k s0_0 bt601.2 a1_0 l1_1 t596 bt601.1).bind fun bt603 => ((spec_l30Rd_pick.f k s0_0 bt603.2 10).bind fun bt607 => (if bt607.1 = 0 then ((spec_l30Rd_pick.f k s0_0 bt607.2 17).bind fun bt609 => (if bt603.1.length < 17592186044416 then (some ((bt603.1 ++ [wrap64 (bt609.1 - 1)]), bt609.2)) else (none))) else (some (bt603.1, bt607.2)))))) = some (r1, r2) := by first | (rw [hy598]; with_reducible exact H) | (have H2_ := (Option.bind_some _ _).symm.trans H; rw [hy598]; with_reducible exact H2_) | (have H2_ := (Option.bind_some _ _).symm.trans H; with_reducible exact H2_) | with_reducible exact H | (rw [hy598]; exact H) | exact H
  have Ny598 := Aside0.mk hy598
  clear hy598
  replace H := Option.bind_eq_some_iff.mp H
  obtain ⟨⟨t601, t602⟩, A60, H⟩ := H
  try dsimp only at H
  have A6 := Aside0.mk A60
  clear A60
  replace H := Option.bind_eq_some_iff.mp H
  obtain ⟨⟨t603, t606⟩, A70, H⟩ := H
  try dsimp only at H
  have A7 := Aside0.mk A70
  clear A70
  replace H := Option.bind_eq_some_iff.mp H
  obtain ⟨⟨t607, t608⟩, A80, H⟩ := H
  try dsimp only at H
  have A8 := Aside0.mk A80
  clear A80
  by_cases c9 : t607 = 0
  rotate_left
  ·rw [if_neg c9] at H
   have c9b0 : (t607 == 0) = false := beq_eq_false_iff_ne.mpr c9
   have c9b1 : (t607 != 0) = true := bne_iff_ne.mpr c9
   simp only [Option.some.injEq, Prod.mk.injEq] at H
   obtain ⟨rfl, rfl⟩ := H
   go_enter Try.func82, Try.ntmps82
   try go_wp2_with (first | ((with_reducible refine gate_dst (N := 3) rfl ?_); refine bx_ 3 #[.int .i64 a1_0, .slice A1_1 l1_1.length c1_1] 29 ?_; intro gb591 hg w27 hbox hb; have BK591 := Aside0.mk (hbox); have GW591 := Aside0.mk (zk_ hg (nk_ HK.out)); have GE591 := Aside0.mk ((Nat.le_trans HW0.out (by rw [hg]; exact (keep_size (w := w) (g := g) (row := none) (nk_ HK.out)) : w.heap.size ≤ gb591) : w0.heap.size ≤ gb591)); have NB0_591 := Aside0.mk ((by rw [hg]; exact Nat.ne_of_lt (IsS106.lt (show IsS106 w0 _ g s0_0 s0_1 from ni106_82 HI0.out)) : g ≠ gb591)); have NB591_0 := Aside0.mk ((by rw [hg]; exact Nat.ne_of_gt (IsS106.lt (show IsS106 w0 _ g s0_0 s0_1 from ni106_82 HI0.out)) : gb591 ≠ g)); replace HI0 := Aside0.mk (IsS106.below (ni106_82 HI0.out) hb); replace HK := Aside0.mk (KeepBut.trans (nk_ HK.out) (KeepBut.of_below hb g none) (.inl rfl)); replace HB := Aside0.mk (below_step (ng106_82 HB.out) hb); clear hb hbox hg; have hnb28 := NB591_0.out; have hnc28 := NB0_591.out; obtain ⟨hcz29_0, hcz29_1, hfz29_0, hfz29_1⟩ := cz2_ BK591.out) | ((with_reducible refine gate_callee (f := 60) rfl ?_); refine gl_ (some 7) Try.func60 #[.agg #[.int .i64 a1_0, .slice A1_1 l1_1.length c1_1]] ?_; (with_reducible refine (spec_l1Ok.calls k a1_0 _ _ l1_1 true _ ?side1 ?side2 A3.out).mono ?_); (case side1 => exact Kd.C_foot_now HR1_1.out (nk_ HK.out)); (case side2 => exact HC1_1.out); rintro e w30 ⟨rfl, hb⟩; refine ⟨_, rfl, ?_⟩; replace HI0 := Aside0.mk (IsS106.below (ni106_82 HI0.out) hb); replace BK591 := kb_ BK591 hb; replace HK := Aside0.mk (KeepBut.trans (nk_ HK.out) (KeepBut.of_below hb g none) (.inl rfl)); replace HB := Aside0.mk (below_step (ng106_82 HB.out) hb); (try clear hb); (try clear hb2); (try clear hk); (try clear hi)))
   replace BK591 := Aside0.mk (blk_drew BK591.out)
   replace HI0 := Aside0.mk (IsS106.drew HI0.out)
   replace HK := Aside0.mk (keep_drew HK.out)
   replace HB := Aside0.mk (below_drew1 HB.out)
   refine start_ (n := 11) (S := fun w' => True) (ds := []) z82_0 (by kernel_rfl) rfl rfl trivial (fun hHeld => ?_); refine with_tabW spec_l30AnyWalk.tab3 spec_l30AnyWalk.bits3 (fun HT_ HW_ => ?_)
   generalize w30.drew = w31 at BK591 HI0 HK HB hHeld ⊢
   refine pu_ 0 10 z82_1 HT_.out ?_
   refine pu_ 2 12 z82_2 HT_.out ?_
   refine pu_ 3 13 z82_3 HT_.out ?_
   refine pu_ 6 16 z82_4 HT_.out ?_
   refine inv_at [1, 4, 5, 7, 8, 9, 10] (fun a0_ b a w' => ∃ (v599 : Value) (v604 : Value) (m10_ : Value), a = putSel a0_ b [(1, 11, .agg #[.int .i64 a1_0, .slice A1_1 l1_1.length c1_1]), (4, 14, .int .i64 a1_0), (5, 15, .int .i64 t596), (7, 17, v599), (8, 18, .int .i64 t601), (9, 19, v604), (10, 5, m10_)] ∧ (w'.heap[gb591]? = some (.cells #[.int .i64 a1_0, .slice A1_1 l1_1.length c1_1] 29 (0, 0))) ∧ (b 5 = false → IsS106 w0 w' g s0_0 s0_1) ∧ (KeepBut w w' g none) ∧ (Below w0.heap.size w0 w') ∧ (b 5 = true → b 8 = false → IsS106 w0 w' g s0_0 t597) ∧ (b 7 = true → Kd.R (Kd.int .i64) 3 w' w.heap.size (fun _ => True) v599 y598) ∧ (b 8 = true → b 9 = false → IsS106 w0 w' g s0_0 t602) ∧ (b 9 = true → Kd.R (Kd.int .i64) 3 w' w.heap.size (fun k_ => some k_ ≠ (v599 : Value).ownBlock) v604 t603) ∧ (b 9 = true → IsS106 w0 w' g s0_0 t606) ∧ (b 10 = true → (m10_ : Value) = v604)) HT_.out HW_.out (by kernel_rfl) (by kernel_rfl) ?_ ?_ ?_
   ·exact ⟨.bool false, .bool false, .bool false, by simp only [putSel, Bool.false_eq_true, if_false], BK591.out, fun _ => HI0.out, HK.out, HB.out, fun h_ => absurd h_ (by decide), fun h_ => absurd h_ (by decide), fun h_ => absurd h_ (by decide), fun h_ => absurd h_ (by decide), fun h_ => absurd h_ (by decide), fun h_ => absurd h_ (by decide)⟩
   ·skip
    clear BK591 HB HI0 HK
    refine steps_cons ?_ ?_
    ·rintro b a w' ⟨v599, v604, m10_, ha, Q_BK591, Q_HI0, Q_HK, Q_HB, Q_HI0_e5, Q_HO600, Q_HI0_e8, Q_HO605, Q_HI0_e9, Q_X10_⟩ hb_ hon hoff
     refine ⟨_, rfl, fun K hK => ?_⟩
     have e3 : a.tmps[3]? = some (.pointer (some ⟨gb591, 0, none⟩)) := by rw [ha]; exact (putSel_off rfl).trans rfl
     replace ha := Aside0.mk ha
     have BK591 := Aside0.mk Q_BK591
     have HK := Aside0.mk Q_HK
     have HB := Aside0.mk Q_HB
     have hc0_ : w'.cell? ⟨gb591, 0, none⟩ = some (.int .i64 a1_0) := ct_ BK591.out 0
     have hc1_ : w'.cell? ⟨gb591, 1, none⟩ = some (.slice A1_1 l1_1.length c1_1) := ct_ BK591.out 1
     refine value_ (w1 := w') (v := .agg #[.int .i64 a1_0, .slice A1_1 l1_1.length c1_1]) (by rfl) rfl ?_ ?_
     ·go_simp
      (try simp only [i64_w])
      try rfl
     refine hK.out _ _ ⟨v599, v604, m10_, (by rw [ha.out]; exact putSel_upk 0 hb_ rfl rfl rfl), Q_BK591, Q_HI0, Q_HK, Q_HB, Q_HI0_e5, Q_HO600, Q_HI0_e8, fun h0_ => absurd ((hoff 9 (by kernel_rfl)).symm.trans h0_) (by decide), fun h0_ => absurd ((hoff 9 (by kernel_rfl)).symm.trans h0_) (by decide), fun h0_ => absurd ((hoff 10 (by kernel_rfl)).symm.trans h0_) (by decide)⟩
    refine steps_cons ?_ ?_
    ·rintro b a w' ⟨v599, v604, m10_, ha, Q_BK591, Q_HI0, Q_HK, Q_HB, Q_HI0_e5, Q_HO600, Q_HI0_e8, Q_HO605, Q_HI0_e9, Q_X10_⟩ hb_ hon hoff
     refine ⟨_, rfl, fun K hK => ?_⟩
     have e13 : a.tmps[13]? = some (.pointer (some ⟨gb591, 0, none⟩)) := by rw [ha]; exact (putSel_off rfl).trans rfl
     replace ha := Aside0.mk ha
     have BK591 := Aside0.mk Q_BK591
     have HI0 := Aside0.mk (Q_HI0 (hoff 5 (by kernel_rfl)))
     have HK := Aside0.mk Q_HK
     have HB := Aside0.mk Q_HB
     have hc0_ : w'.cell? ⟨gb591, 0, none⟩ = some (.int .i64 a1_0) := ct_ BK591.out 0
     have hc1_ : w'.cell? ⟨gb591, 1, none⟩ = some (.slice A1_1 l1_1.length c1_1) := ct_ BK591.out 1
     refine value_ (w1 := w') (v := .int .i64 a1_0) (by rfl) rfl ?_ ?_
     ·go_simp
      (try simp only [i64_w])
      try rfl
     refine hK.out _ _ ⟨v599, v604, m10_, (by rw [ha.out]; exact putSel_upk 1 hb_ rfl rfl rfl), Q_BK591, Q_HI0, Q_HK, Q_HB, fun h0_ _ => absurd ((hoff 5 (by kernel_rfl)).symm.trans h0_) (by decide), Q_HO600, fun h0_ _ => absurd ((hoff 8 (by kernel_rfl)).symm.trans h0_) (by decide), fun h0_ => absurd ((hoff 9 (by kernel_rfl)).symm.trans h0_) (by decide), fun h0_ => absurd ((hoff 9 (by kernel_rfl)).symm.trans h0_) (by decide), fun h0_ => absurd ((hoff 10 (by kernel_rfl)).symm.trans h0_) (by decide)⟩
    refine steps_cons ?_ ?_
    ·rintro b a w' ⟨v599, v604, m10_, ha, Q_BK591, Q_HI0, Q_HK, Q_HB, Q_HI0_e5, Q_HO600, Q_HI0_e8, Q_HO605, Q_HI0_e9, Q_X10_⟩ hb_ hon hoff
     refine ⟨_, rfl, fun K hK => ?_⟩
     have e12 : a.tmps[12]? = some (.pointer (some ⟨g, 0, none⟩)) := by rw [ha]; exact (putSel_off rfl).trans rfl
     have e14 : a.tmps[14]? = some (.int .i64 a1_0) := by rw [ha]; exact putSel_on (e := (4, 14, .int .i64 a1_0)) 1 rfl rfl (hon 4 (by kernel_rfl)) rfl
     replace ha := Aside0.mk ha
     have BK591 := Aside0.mk Q_BK591
     have HI0 := Aside0.mk (Q_HI0 hb_)
     have HK := Aside0.mk Q_HK
     have HB := Aside0.mk Q_HB
     refine goes_ Try.func88 (by kernel_rfl) rfl #[.pointer (some ⟨g, 0, none⟩), .int .i64 a1_0] (by rfl) rfl rfl (by first | (simp only [List.map_toArray, List.map_cons, List.map_nil, Act.eval, Array.getD_eq_getD_getElem?, Option.getD_some, e12, e14]; done) | (simp only [List.map_toArray, List.map_cons, List.map_nil, Act.eval, Array.getD_eq_getD_getElem?, Option.getD_some, e12, e14]; rfl)) ?_
     with_reducible refine (spec_l30Rd_pick.calls k g s0_0 s0_1 a1_0 t596 t597 w0 _ ?side1 ?side2 A5.out).mono ?_
     (case side1 => repeat (first | (with_reducible first | exact HI0.out | apply IsS106.alloc | apply IsS106.drewN | apply IsS106.drew | apply IsS106.set_1 | refine IsS106.far ?_ NB0_591.out _) | exact HI0.out))
     (case side2 => exact (ng106_82 HB.out))
     rintro e w32 ⟨rfl, hi, hb, hk⟩
     refine ⟨_, rfl, ?_⟩
     have n0_ := Aside0.mk (KeepBut.blk hk (g' := gb591) (o := .cells #[.int .i64 a1_0, .slice A1_1 l1_1.length c1_1] 29 (0, 0)) (nb_ BK591.out) NB591_0.out (by simp))
     have n1_ := Aside0.mk (KeepBut.trans (nk_ HK.out) hk (.inl rfl))
     have n2_ := Aside0.mk (hb)
     have n3_ := Aside0.mk (hi)
     have z_HO600 := fun (h0_ : b 7 = true) => (show Kd.R (Kd.int .i64) 3 w32 w.heap.size (fun _ => True) v599 y598 from by first | exact (Kd.R_mono (Kd.R_keep (IsS106.apart (show IsS106 w0 _ g s0_0 s0_1 from ni106_82 HI0.out) (by (with_reducible repeat (first | apply Kd.R_alloc | apply Kd.R_drewN | apply Kd.R_drew)); exact (Q_HO600 h0_)) (by decide)) hk (fun _ h => h.2)) (fun _ h => h.1)) | exact Kd.R_mono (Kd.R_mono (Kd.R_keep (IsS106.apart (show IsS106 w0 _ g s0_0 s0_1 from ni106_82 HI0.out) (by (with_reducible repeat (first | apply Kd.R_alloc | apply Kd.R_drewN | apply Kd.R_drew)); exact (Q_HO600 h0_)) (by decide)) hk (fun _ h => h.2)) (fun _ h => h.1)) (fun _ h_ => by first | trivial | exact h_ | exact h_.1))
     clear BK591 HK HB HI0
     have BK591 := n0_
     have HK := n1_
     have HB := n2_
     have HI0 := n3_
     clear n0_ n1_ n2_ n3_
     (try clear hb)
     (try clear hb2)
     (try clear hk)
     (try clear hi)
     refine hK.out _ _ ⟨v599, v604, m10_, (by rw [ha.out]; exact putSel_upk 2 hb_ rfl rfl rfl), (nb_ BK591.out), fun h0_ => absurd ((up_self b 5).symm.trans h0_) (by decide), (nk_ HK.out), (ng106_82 HB.out), fun _ _ => (ni106_82 HI0.out), z_HO600, fun h0_ _ => absurd ((hoff 8 (by kernel_rfl)).symm.trans h0_) (by decide), fun h0_ => absurd ((hoff 9 (by kernel_rfl)).symm.trans h0_) (by decide), fun h0_ => absurd ((hoff 9 (by kernel_rfl)).symm.trans h0_) (by decide), fun h0_ => absurd ((hoff 10 (by kernel_rfl)).symm.trans h0_) (by decide)⟩
    refine steps_cons ?_ ?_
    ·rintro b a w' ⟨v599, v604, m10_, ha, Q_BK591, Q_HI0, Q_HK, Q_HB, Q_HI0_e5, Q_HO600, Q_HI0_e8, Q_HO605, Q_HI0_e9, Q_X10_⟩ hb_ hon hoff
     refine ⟨_, rfl, fun K hK => ?_⟩
     replace ha := Aside0.mk ha
     have BK591 := Aside0.mk Q_BK591
     have HK := Aside0.mk Q_HK
     have HB := Aside0.mk Q_HB
     refine ls_ 17 3 [3, 8, 21] [.int .i64 3, .int .i64 8, .int .i64 21] ?_
     intro v599 w32 ho33 hb hg_ hnew_
     clear hg_ hnew_
     (first | rw [← Ny598.out] at ho33 | (simp only [Int.reduceToNat] at ho33; rw [← Ny598.out] at ho33))
     have n0_ := Aside0.mk (Kd.R_lower ho33 (keep_size (w := w) (g := g) (row := none) (nk_ HK.out)))
     have n2_ := Aside0.mk (blk_below (g := gb591) (o := .cells #[.int .i64 a1_0, .slice A1_1 l1_1.length c1_1] 29 (0, 0)) (nb_ BK591.out) hb)
     have n3_ := Aside0.mk (KeepBut.trans (nk_ HK.out) (KeepBut.of_below hb g none) (.inl rfl))
     have n4_ := Aside0.mk (below_step (ne_ HB.out) hb)
     have z_HI0 := fun (h0_ : b 5 = false) => (show IsS106 w0 w32 g s0_0 s0_1 from by first | exact (IsS106.below (by repeat (first | (with_reducible first | exact (Q_HI0 h0_) | apply IsS106.alloc | apply IsS106.drewN | apply IsS106.drew | apply IsS106.set_1 | refine IsS106.far ?_ NB0_591.out _) | exact (Q_HI0 h0_))) hb))
     have z_HI0_e5 := fun (h0_ : b 5 = true) (h1_ : b 8 = false) => (show IsS106 w0 w32 g s0_0 t597 from by first | exact (IsS106.below (by repeat (first | (with_reducible first | exact (Q_HI0_e5 h0_ h1_) | apply IsS106.alloc | apply IsS106.drewN | apply IsS106.drew | apply IsS106.set_1 | refine IsS106.far ?_ NB0_591.out _) | exact (Q_HI0_e5 h0_ h1_))) hb))
     clear BK591 HK HB
     have HO600 := n0_
     have BK591 := n2_
     have HK := n3_
     have HB := n4_
     clear n0_ n2_ n3_ n4_ hb ho33
     refine hK.out _ _ ⟨v599, v604, m10_, (by rw [ha.out]; exact putSel_upk 3 hb_ rfl rfl rfl), (nb_ BK591.out), z_HI0, (nk_ HK.out), (ne_ HB.out), z_HI0_e5, fun _ => (nr_ HO600.out), fun h0_ _ => absurd ((hoff 8 (by kernel_rfl)).symm.trans h0_) (by decide), fun h0_ => absurd ((hoff 9 (by kernel_rfl)).symm.trans h0_) (by decide), fun h0_ => absurd ((hoff 9 (by kernel_rfl)).symm.trans h0_) (by decide), fun h0_ => absurd ((hoff 10 (by kernel_rfl)).symm.trans h0_) (by decide)⟩
    refine steps_cons ?_ ?_
    ·rintro b a w' ⟨v599, v604, m10_, ha, Q_BK591, Q_HI0, Q_HK, Q_HB, Q_HI0_e5, Q_HO600, Q_HI0_e8, Q_HO605, Q_HI0_e9, Q_X10_⟩ hb_ hon hoff
     refine ⟨_, rfl, fun K hK => ?_⟩
     have e16 : a.tmps[16]? = some (.pointer (some ⟨g, 0, none⟩)) := by rw [ha]; exact (putSel_off rfl).trans rfl
     have e17 : a.tmps[17]? = some (v599) := by rw [ha]; exact putSel_on (e := (7, 17, v599)) 3 rfl rfl (hon 7 (by kernel_rfl)) rfl
     replace ha := Aside0.mk ha
     have BK591 := Aside0.mk Q_BK591
     have HK := Aside0.mk Q_HK
     have HB := Aside0.mk Q_HB
     have HI0 := Aside0.mk (Q_HI0_e5 (hon 5 (by kernel_rfl)) hb_)
     have HO600 := Aside0.mk (Q_HO600 (hon 7 (by kernel_rfl)))
     obtain ⟨Ao36, co36, eo36⟩ := Kd.R_slice HO600.out
     (first | subst eo36 | (injection eo36 with f1_ f2_ f3_; have f4_ := f1_.symm; have f5_ := f3_.symm; clear f1_ f2_ f3_; subst f4_; subst f5_))
     refine goes_ Try.func99 (by kernel_rfl) rfl #[.pointer (some ⟨g, 0, none⟩), .slice Ao36 y598.length co36] (by rfl) rfl rfl (by first | (simp only [List.map_toArray, List.map_cons, List.map_nil, Act.eval, Array.getD_eq_getD_getElem?, Option.getD_some, e16, e17]; done) | (simp only [List.map_toArray, List.map_cons, List.map_nil, Act.eval, Array.getD_eq_getD_getElem?, Option.getD_some, e16, e17]; rfl)) ?_
     with_reducible refine (spec_l30Rd_one.calls k g s0_0 t597 _ _ y598 t601 t602 w0 _ ?side1 ?side2 ?side3 ?side4 ?side5 A6.out).mono ?_
     (case side1 => repeat (first | (with_reducible first | exact HI0.out | apply IsS106.alloc | apply IsS106.drewN | apply IsS106.drew | apply IsS106.set_1 | refine IsS106.far ?_ NB0_591.out _) | exact HI0.out))
     (case side2 => exact (ng106_82 HB.out))
     (case side3 => exact nc_ (Kd.R_reads' HO600.out).2.2)
     (case side4 => exact (Kd.R_reads' HO600.out).2.1)
     (case side5 => exact far_slice (IsS106.own_ne HI0.out HO600.out (by decide)))
     rintro e w37 ⟨rfl, hi, hb, hk⟩
     refine ⟨_, rfl, ?_⟩
     replace BK591 := kk_ BK591 hk NB591_0
     replace HO600 := Aside0.mk (Kd.R_mono (Kd.R_keep (IsS106.apart (show IsS106 w0 _ g s0_0 t597 from ni106_82 HI0.out) (nr_ HO600.out) (by decide)) hk (fun _ h => h.2)) (fun _ h => h.1))
     replace HK := Aside0.mk (KeepBut.trans (nk_ HK.out) hk (.inl rfl))
     replace HB := Aside0.mk (hb)
     replace HI0 := Aside0.mk (hi)
     (try clear hb)
     (try clear hb2)
     (try clear hk)
     (try clear hi)
     refine hK.out _ _ ⟨.slice Ao36 y598.length co36, v604, m10_, (by rw [ha.out]; exact putSel_upk 4 hb_ rfl rfl rfl), (nb_ BK591.out), fun h0_ => absurd ((hon 5 (by kernel_rfl)).symm.trans h0_) (by decide), (nk_ HK.out), (ng106_82 HB.out), fun _ h1_ => absurd ((up_self b 8).symm.trans h1_) (by decide), fun _ => (nr_ HO600.out), fun _ _ => (ni106_82 HI0.out), fun h0_ => absurd ((hoff 9 (by kernel_rfl)).symm.trans h0_) (by decide), fun h0_ => absurd ((hoff 9 (by kernel_rfl)).symm.trans h0_) (by decide), fun h0_ => absurd ((hoff 10 (by kernel_rfl)).symm.trans h0_) (by decide)⟩
    refine steps_cons ?_ ?_
    ·rintro b a w' ⟨v599, v604, m10_, ha, Q_BK591, Q_HI0, Q_HK, Q_HB, Q_HI0_e5, Q_HO600, Q_HI0_e8, Q_HO605, Q_HI0_e9, Q_X10_⟩ hb_ hon hoff
     refine ⟨_, rfl, fun K hK => ?_⟩
     have e10 : a.tmps[10]? = some (.pointer (some ⟨g, 0, none⟩)) := by rw [ha]; exact (putSel_off rfl).trans rfl
     have e11 : a.tmps[11]? = some (.agg #[.int .i64 a1_0, .slice A1_1 l1_1.length c1_1]) := by rw [ha]; exact putSel_on (e := (1, 11, .agg #[.int .i64 a1_0, .slice A1_1 l1_1.length c1_1])) 0 rfl rfl (hon 1 (by kernel_rfl)) rfl
     have e15 : a.tmps[15]? = some (.int .i64 t596) := by rw [ha]; exact putSel_on (e := (5, 15, .int .i64 t596)) 2 rfl rfl (hon 5 (by kernel_rfl)) rfl
     have e18 : a.tmps[18]? = some (.int .i64 t601) := by rw [ha]; exact putSel_on (e := (8, 18, .int .i64 t601)) 4 rfl rfl (hon 8 (by kernel_rfl)) rfl
     replace ha := Aside0.mk ha
     have BK591 := Aside0.mk Q_BK591
     have HK := Aside0.mk Q_HK
     have HB := Aside0.mk Q_HB
     have HO600 := Aside0.mk (Q_HO600 (hon 7 (by kernel_rfl)))
     have HI0 := Aside0.mk (Q_HI0_e8 (hon 8 (by kernel_rfl)) hb_)
     refine goes_ Try.func89 (by kernel_rfl) rfl #[.pointer (some ⟨g, 0, none⟩), .agg #[.int .i64 a1_0, .slice A1_1 l1_1.length c1_1], .int .i64 t596, .int .i64 t601] (by rfl) rfl rfl (by first | (simp only [List.map_toArray, List.map_cons, List.map_nil, Act.eval, Array.getD_eq_getD_getElem?, Option.getD_some, e10, e11, e15, e18]; done) | (simp only [List.map_toArray, List.map_cons, List.map_nil, Act.eval, Array.getD_eq_getD_getElem?, Option.getD_some, e10, e11, e15, e18]; rfl)) ?_
     with_reducible refine (spec_l30Walk.calls k g s0_0 t602 a1_0 _ _ l1_1 t596 t601 t603 t606 w0 _ ?side1 ?side2 ?side3 ?side4 A7.out).mono ?_
     (case side1 => repeat (first | (with_reducible first | exact HI0.out | apply IsS106.alloc | apply IsS106.drewN | apply IsS106.drew | apply IsS106.set_1 | refine IsS106.far ?_ NB0_591.out _) | exact HI0.out))
     (case side2 => exact (ng106_82 HB.out))
     (case side3 => exact Kd.C_foot_step HR1_1.out (nk_ HK.out))
     (case side4 => exact HC1_1.out)
     rintro e w38 ⟨v604, rfl, ho0, hi, hb, hk⟩
     refine ⟨_, rfl, ?_⟩
     replace BK591 := kk_ BK591 hk NB591_0
     have HO605 := Aside0.mk (Kd.R_lower (Kd.R_new' ho0 (Kd.R_lt (nr_ HO600.out))) (keep_size (w := w) (g := g) (row := none) (nk_ HK.out)))
     replace HO600 := Aside0.mk (Kd.R_mono (Kd.R_told (Kd.R_oldK (IsS106.apart (show IsS106 w0 _ g s0_0 t602 from ni106_82 HI0.out) (nr_ HO600.out) (by decide)) hk) (Kd.R_base ho0)) (fun _ h_ => h_.1))
     replace HK := Aside0.mk (KeepBut.trans (nk_ HK.out) hk (.inl rfl))
     replace HB := Aside0.mk (hb)
     replace HI0 := Aside0.mk (hi)
     (try clear hb)
     (try clear hb2)
     (try clear hk)
     (try clear hi)
     (try clear ho0)
     refine hK.out _ _ ⟨v599, v604, m10_, (by rw [ha.out]; exact putSel_upk 5 hb_ rfl rfl rfl), (nb_ BK591.out), fun h0_ => absurd ((hon 5 (by kernel_rfl)).symm.trans h0_) (by decide), (nk_ HK.out), (ng106_82 HB.out), fun _ h1_ => absurd ((hon 8 (by kernel_rfl)).symm.trans h1_) (by decide), fun _ => (by (with_reducible repeat (first | apply Kd.R_alloc | apply Kd.R_drewN | apply Kd.R_drew)); exact Kd.R_mono HO600.out (fun _ hk => by first | exact hk.2 | trivial | simp_all)), fun _ h1_ => absurd ((up_self b 9).symm.trans h1_) (by decide), fun _ => (by (with_reducible repeat (first | apply Kd.R_alloc | apply Kd.R_drewN | apply Kd.R_drew)); exact Kd.R_mono HO605.out (fun _ hk => by first | exact hk.2 | trivial | simp_all)), fun _ => (ni106_82 HI0.out), fun h0_ => absurd ((hoff 10 (by kernel_rfl)).symm.trans h0_) (by decide)⟩
    refine steps_cons ?_ ?_
    ·rintro b a w' ⟨v599, v604, m10_, ha, Q_BK591, Q_HI0, Q_HK, Q_HB, Q_HI0_e5, Q_HO600, Q_HI0_e8, Q_HO605, Q_HI0_e9, Q_X10_⟩ hb_ hon hoff
     refine ⟨_, rfl, fun K hK => ?_⟩
     have e19 : a.tmps[19]? = some (v604) := by rw [ha]; exact putSel_on (e := (9, 19, v604)) 5 rfl rfl (hon 9 (by kernel_rfl)) rfl
     replace ha := Aside0.mk ha
     have BK591 := Aside0.mk Q_BK591
     have HK := Aside0.mk Q_HK
     have HB := Aside0.mk Q_HB
     have HO600 := Aside0.mk (Q_HO600 (hon 7 (by kernel_rfl)))
     have HO605 := Aside0.mk (Q_HO605 (hon 9 (by kernel_rfl)))
     have HI0 := Aside0.mk (Q_HI0_e9 (hon 9 (by kernel_rfl)))
     refine value_ (w1 := w') (v := v604) (by rfl) rfl ?_ ?_
     ·go_simp
      (try simp only [i64_w])
      try rfl
     refine hK.out _ _ ⟨v599, v604, (v604), (by rw [ha.out]; exact putSel_upk 6 hb_ rfl rfl rfl), Q_BK591, fun h0_ => absurd ((hon 5 (by kernel_rfl)).symm.trans h0_) (by decide), Q_HK, Q_HB, fun _ h1_ => absurd ((hon 8 (by kernel_rfl)).symm.trans h1_) (by decide), Q_HO600, fun _ h1_ => absurd ((hon 9 (by kernel_rfl)).symm.trans h1_) (by decide), Q_HO605, Q_HI0_e9, fun _ => rfl⟩
    exact steps_nil
   rintro b a w38 hall ⟨v599, v604, m10_, ha, Q_BK591, Q_HI0, Q_HK, Q_HB, Q_HI0_e5, Q_HO600, Q_HI0_e8, Q_HO605, Q_HI0_e9, Q_X10_⟩
   clear BK591 HB HI0 HK
   have hb1_ := hall 1 (by kernel_rfl)
   have hb4_ := hall 4 (by kernel_rfl)
   have hb5_ := hall 5 (by kernel_rfl)
   have hb7_ := hall 7 (by kernel_rfl)
   have hb8_ := hall 8 (by kernel_rfl)
   have hb9_ := hall 9 (by kernel_rfl)
   have hb10_ := hall 10 (by kernel_rfl)
   subst ha
   obtain rfl := (Q_X10_ hb10_).symm
   simp only [putSel, hb1_, hb4_, hb5_, hb7_, hb8_, hb9_, hb10_, if_true, Act.put, List.setIfInBounds_toArray, List.set_cons_zero, List.set_cons_succ]
   have BK591 := Aside0.mk Q_BK591
   clear Q_BK591 Q_HI0
   have HK := Aside0.mk Q_HK
   clear Q_HK
   have HB := Aside0.mk Q_HB
   clear Q_HB Q_HI0_e5
   have HO600 := Aside0.mk (Q_HO600 hb7_)
   clear Q_HO600 Q_HI0_e8
   have HO605 := Aside0.mk (Q_HO605 hb9_)
   clear Q_HO605
   have HI0 := Aside0.mk (Q_HI0_e9 hb9_)
   clear Q_HI0_e9
   try replace HO600 := Aside0.mk (Go.Proofs.YtpjmkghmjpbldaaX.Kd.R_apart_back (fun _ _ _ _ _ _ h_ => h_) HO600.out HO605.out (fun k_ hk => by first | exact hk | exact hk | simp_all))
   clear hall hb1_ hb4_ hb5_ hb7_ hb8_ hb9_ hb10_
   try go_wp2_with (first | ((with_reducible refine gate_callee (f := 88) rfl ?_); refine gl_ (some 21) Try.func88 #[.pointer (some ⟨g, 0, none⟩), .int .i64 10] ?_; (with_reducible refine (spec_l30Rd_pick.calls k g s0_0 t606 10 t607 t608 w0 _ ?side1 ?side2 A8.out).mono ?_); (case side1 => repeat (first | (with_reducible first | exact HI0.out | apply IsS106.alloc | apply IsS106.drewN | apply IsS106.drew | apply IsS106.set_1 | refine IsS106.far ?_ NB0_591.out _) | exact HI0.out)); (case side2 => exact (ng106_82 HB.out)); rintro e w39 ⟨rfl, hi, hb, hk⟩; refine ⟨_, rfl, ?_⟩; replace BK591 := kk_ BK591 hk NB591_0; replace HO600 := Aside0.mk (Kd.R_mono (Kd.R_keep (IsS106.apart (show IsS106 w0 _ g s0_0 t606 from ni106_82 HI0.out) (nr_ HO600.out) (by decide)) hk (fun _ h => h.2)) (fun _ h => h.1)); replace HO605 := Aside0.mk (Kd.R_mono (Kd.R_keep (IsS106.apart (show IsS106 w0 _ g s0_0 t606 from ni106_82 HI0.out) (nr_ HO605.out) (by decide)) hk (fun _ h => h.2)) (fun _ h => h.1)); replace HK := Aside0.mk (KeepBut.trans (nk_ HK.out) hk (.inl rfl)); replace HB := Aside0.mk (hb); replace HI0 := Aside0.mk (hi); (try clear hb); (try clear hb2); (try clear hk); (try clear hi)))
   go_ret
   exact ⟨_, nw_, by (with_reducible repeat (first | apply Kd.R_alloc | apply Kd.R_drewN | apply Kd.R_drew)); exact Kd.R_mono HO605.out (fun _ hk => trivial), ni106_82 HI0.out, by repeat (first | (with_reducible first | exact HB.out | apply below_alloc | apply pw_below_drewN | apply below_drew1 | refine below_set ?_ (IsS106.ge HI0.out) | refine below_set ?_ GE591.out) | exact HB.out), nk_ HK.out⟩
  rw [if_pos c9] at H
  have c9b0 : (t607 == 0) = true := beq_iff_eq.mpr c9
  have c9b1 : (t607 != 0) = false := bne_eq_false_iff_eq.mpr c9
  clear c9
  replace H := Option.bind_eq_some_iff.mp H
  obtain ⟨⟨t609, t610⟩, A100, H⟩ := H
  replace H : (if t603.length < 17592186044416 then (some ((t603 ++ [wrap64 (t609 - 1)]), t610)) else (none)) = some (r1, r2) := H
  have A10 := Aside0.mk A100
  clear A100
  by_cases c11 : t603.length < 17592186044416
  rotate_left
  ·rw [if_neg c11] at H
   exact absurd H (by simp)
  rw [if_pos c11] at H
  have LMc11 := Aside0.mk c11
  clear c11
  obtain ⟨y611, hy611⟩ : ∃ y_ : List Int, y_ = (t603 ++ [wrap64 (t609 - 1)]) := ⟨_, rfl⟩
  replace H : (some (y611, t610)) = some (r1, r2) := by first | (rw [hy611]; with_reducible exact H) | (have H2_ := (Option.bind_some _ _).symm.trans H; rw [hy611]; with_reducible exact H2_) | (have H2_ := (Option.bind_some _ _).symm.trans H; with_reducible exact H2_) | with_reducible exact H | (rw [hy611]; exact H) | exact H
  have Ny611 := Aside0.mk hy611
  clear hy611
  simp only [Option.some.injEq, Prod.mk.injEq] at H
  obtain ⟨rfl, rfl⟩ := H
  go_enter Try.func82, Try.ntmps82
  try go_wp2_with (first | ((with_reducible refine gate_dst (N := 3) rfl ?_); refine bx_ 3 #[.int .i64 a1_0, .slice A1_1 l1_1.length c1_1] 29 ?_; intro gb591 hg w12 hbox hb; have BK591 := Aside0.mk (hbox); have GW591 := Aside0.mk (zk_ hg (nk_ HK.out)); have GE591 := Aside0.mk ((Nat.le_trans HW0.out (by rw [hg]; exact (keep_size (w := w) (g := g) (row := none) (nk_ HK.out)) : w.heap.size ≤ gb591) : w0.heap.size ≤ gb591)); have NB0_591 := Aside0.mk ((by rw [hg]; exact Nat.ne_of_lt (IsS106.lt (show IsS106 w0 _ g s0_0 s0_1 from ni106_82 HI0.out)) : g ≠ gb591)); have NB591_0 := Aside0.mk ((by rw [hg]; exact Nat.ne_of_gt (IsS106.lt (show IsS106 w0 _ g s0_0 s0_1 from ni106_82 HI0.out)) : gb591 ≠ g)); replace HI0 := Aside0.mk (IsS106.below (ni106_82 HI0.out) hb); replace HK := Aside0.mk (KeepBut.trans (nk_ HK.out) (KeepBut.of_below hb g none) (.inl rfl)); replace HB := Aside0.mk (below_step (ng106_82 HB.out) hb); clear hb hbox hg; have hnb13 := NB591_0.out; have hnc13 := NB0_591.out; obtain ⟨hcz14_0, hcz14_1, hfz14_0, hfz14_1⟩ := cz2_ BK591.out) | ((with_reducible refine gate_callee (f := 60) rfl ?_); refine gl_ (some 7) Try.func60 #[.agg #[.int .i64 a1_0, .slice A1_1 l1_1.length c1_1]] ?_; (with_reducible refine (spec_l1Ok.calls k a1_0 _ _ l1_1 true _ ?side1 ?side2 A3.out).mono ?_); (case side1 => exact Kd.C_foot_now HR1_1.out (nk_ HK.out)); (case side2 => exact HC1_1.out); rintro e w15 ⟨rfl, hb⟩; refine ⟨_, rfl, ?_⟩; replace HI0 := Aside0.mk (IsS106.below (ni106_82 HI0.out) hb); replace BK591 := kb_ BK591 hb; replace HK := Aside0.mk (KeepBut.trans (nk_ HK.out) (KeepBut.of_below hb g none) (.inl rfl)); replace HB := Aside0.mk (below_step (ng106_82 HB.out) hb); (try clear hb); (try clear hb2); (try clear hk); (try clear hi)))
  replace BK591 := Aside0.mk (blk_drew BK591.out)
  replace HI0 := Aside0.mk (IsS106.drew HI0.out)
  replace HK := Aside0.mk (keep_drew HK.out)
  replace HB := Aside0.mk (below_drew1 HB.out)
  refine start_ (n := 11) (S := fun w' => True) (ds := []) z82_0 (by kernel_rfl) rfl rfl trivial (fun hHeld => ?_); refine with_tabW spec_l30AnyWalk.tab3 spec_l30AnyWalk.bits3 (fun HT_ HW_ => ?_)
  generalize w15.drew = w16 at BK591 HI0 HK HB hHeld ⊢
  refine pu_ 0 10 z82_1 HT_.out ?_
  refine pu_ 2 12 z82_2 HT_.out ?_
  refine pu_ 3 13 z82_3 HT_.out ?_
  refine pu_ 6 16 z82_4 HT_.out ?_
  refine inv_at [1, 4, 5, 7, 8, 9, 10] (fun a0_ b a w' => ∃ (v599 : Value) (v604 : Value) (m10_ : Value), a = putSel a0_ b [(1, 11, .agg #[.int .i64 a1_0, .slice A1_1 l1_1.length c1_1]), (4, 14, .int .i64 a1_0), (5, 15, .int .i64 t596), (7, 17, v599), (8, 18, .int .i64 t601), (9, 19, v604), (10, 5, m10_)] ∧ (w'.heap[gb591]? = some (.cells #[.int .i64 a1_0, .slice A1_1 l1_1.length c1_1] 29 (0, 0))) ∧ (b 5 = false → IsS106 w0 w' g s0_0 s0_1) ∧ (KeepBut w w' g none) ∧ (Below w0.heap.size w0 w') ∧ (b 5 = true → b 8 = false → IsS106 w0 w' g s0_0 t597) ∧ (b 7 = true → Kd.R (Kd.int .i64) 3 w' w.heap.size (fun _ => True) v599 y598) ∧ (b 8 = true → b 9 = false → IsS106 w0 w' g s0_0 t602) ∧ (b 9 = true → Kd.R (Kd.int .i64) 3 w' w.heap.size (fun k_ => some k_ ≠ (v599 : Value).ownBlock) v604 t603) ∧ (b 9 = true → IsS106 w0 w' g s0_0 t606) ∧ (b 10 = true → (m10_ : Value) = v604)) HT_.out HW_.out (by kernel_rfl) (by kernel_rfl) ?_ ?_ ?_
  ·exact ⟨.bool false, .bool false, .bool false, by simp only [putSel, Bool.false_eq_true, if_false], BK591.out, fun _ => HI0.out, HK.out, HB.out, fun h_ => absurd h_ (by decide), fun h_ => absurd h_ (by decide), fun h_ => absurd h_ (by decide), fun h_ => absurd h_ (by decide), fun h_ => absurd h_ (by decide), fun h_ => absurd h_ (by decide)⟩
  ·skip
   clear BK591 HB HI0 HK
   refine steps_cons ?_ ?_
   ·rintro b a w' ⟨v599, v604, m10_, ha, Q_BK591, Q_HI0, Q_HK, Q_HB, Q_HI0_e5, Q_HO600, Q_HI0_e8, Q_HO605, Q_HI0_e9, Q_X10_⟩ hb_ hon hoff
    refine ⟨_, rfl, fun K hK => ?_⟩
    have e3 : a.tmps[3]? = some (.pointer (some ⟨gb591, 0, none⟩)) := by rw [ha]; exact (putSel_off rfl).trans rfl
    replace ha := Aside0.mk ha
    have BK591 := Aside0.mk Q_BK591
    have HK := Aside0.mk Q_HK
    have HB := Aside0.mk Q_HB
    have hc0_ : w'.cell? ⟨gb591, 0, none⟩ = some (.int .i64 a1_0) := ct_ BK591.out 0
    have hc1_ : w'.cell? ⟨gb591, 1, none⟩ = some (.slice A1_1 l1_1.length c1_1) := ct_ BK591.out 1
    refine value_ (w1 := w') (v := .agg #[.int .i64 a1_0, .slice A1_1 l1_1.length c1_1]) (by rfl) rfl ?_ ?_
    ·go_simp
     (try simp only [i64_w])
     try rfl
    refine hK.out _ _ ⟨v599, v604, m10_, (by rw [ha.out]; exact putSel_upk 0 hb_ rfl rfl rfl), Q_BK591, Q_HI0, Q_HK, Q_HB, Q_HI0_e5, Q_HO600, Q_HI0_e8, fun h0_ => absurd ((hoff 9 (by kernel_rfl)).symm.trans h0_) (by decide), fun h0_ => absurd ((hoff 9 (by kernel_rfl)).symm.trans h0_) (by decide), fun h0_ => absurd ((hoff 10 (by kernel_rfl)).symm.trans h0_) (by decide)⟩
   refine steps_cons ?_ ?_
   ·rintro b a w' ⟨v599, v604, m10_, ha, Q_BK591, Q_HI0, Q_HK, Q_HB, Q_HI0_e5, Q_HO600, Q_HI0_e8, Q_HO605, Q_HI0_e9, Q_X10_⟩ hb_ hon hoff
    refine ⟨_, rfl, fun K hK => ?_⟩
    have e13 : a.tmps[13]? = some (.pointer (some ⟨gb591, 0, none⟩)) := by rw [ha]; exact (putSel_off rfl).trans rfl
    replace ha := Aside0.mk ha
    have BK591 := Aside0.mk Q_BK591
    have HI0 := Aside0.mk (Q_HI0 (hoff 5 (by kernel_rfl)))
    have HK := Aside0.mk Q_HK
    have HB := Aside0.mk Q_HB
    have hc0_ : w'.cell? ⟨gb591, 0, none⟩ = some (.int .i64 a1_0) := ct_ BK591.out 0
    have hc1_ : w'.cell? ⟨gb591, 1, none⟩ = some (.slice A1_1 l1_1.length c1_1) := ct_ BK591.out 1
    refine value_ (w1 := w') (v := .int .i64 a1_0) (by rfl) rfl ?_ ?_
    ·go_simp
     (try simp only [i64_w])
     try rfl
    refine hK.out _ _ ⟨v599, v604, m10_, (by rw [ha.out]; exact putSel_upk 1 hb_ rfl rfl rfl), Q_BK591, Q_HI0, Q_HK, Q_HB, fun h0_ _ => absurd ((hoff 5 (by kernel_rfl)).symm.trans h0_) (by decide), Q_HO600, fun h0_ _ => absurd ((hoff 8 (by kernel_rfl)).symm.trans h0_) (by decide), fun h0_ => absurd ((hoff 9 (by kernel_rfl)).symm.trans h0_) (by decide), fun h0_ => absurd ((hoff 9 (by kernel_rfl)).symm.trans h0_) (by decide), fun h0_ => absurd ((hoff 10 (by kernel_rfl)).symm.trans h0_) (by decide)⟩
   refine steps_cons ?_ ?_
   ·rintro b a w' ⟨v599, v604, m10_, ha, Q_BK591, Q_HI0, Q_HK, Q_HB, Q_HI0_e5, Q_HO600, Q_HI0_e8, Q_HO605, Q_HI0_e9, Q_X10_⟩ hb_ hon hoff
    refine ⟨_, rfl, fun K hK => ?_⟩
    have e12 : a.tmps[12]? = some (.pointer (some ⟨g, 0, none⟩)) := by rw [ha]; exact (putSel_off rfl).trans rfl
    have e14 : a.tmps[14]? = some (.int .i64 a1_0) := by rw [ha]; exact putSel_on (e := (4, 14, .int .i64 a1_0)) 1 rfl rfl (hon 4 (by kernel_rfl)) rfl
    replace ha := Aside0.mk ha
    have BK591 := Aside0.mk Q_BK591
    have HI0 := Aside0.mk (Q_HI0 hb_)
    have HK := Aside0.mk Q_HK
    have HB := Aside0.mk Q_HB
    refine goes_ Try.func88 (by kernel_rfl) rfl #[.pointer (some ⟨g, 0, none⟩), .int .i64 a1_0] (by rfl) rfl rfl (by first | (simp only [List.map_toArray, List.map_cons, List.map_nil, Act.eval, Array.getD_eq_getD_getElem?, Option.getD_some, e12, e14]; done) | (simp only [List.map_toArray, List.map_cons, List.map_nil, Act.eval, Array.getD_eq_getD_getElem?, Option.getD_some, e12, e14]; rfl)) ?_
    with_reducible refine (spec_l30Rd_pick.calls k g s0_0 s0_1 a1_0 t596 t597 w0 _ ?side1 ?side2 A5.out).mono ?_
    (case side1 => repeat (first | (with_reducible first | exact HI0.out | apply IsS106.alloc | apply IsS106.drewN | apply IsS106.drew | apply IsS106.set_1 | refine IsS106.far ?_ NB0_591.out _) | exact HI0.out))
    (case side2 => exact (ng106_82 HB.out))
    rintro e w17 ⟨rfl, hi, hb, hk⟩
    refine ⟨_, rfl, ?_⟩
    have n0_ := Aside0.mk (KeepBut.blk hk (g' := gb591) (o := .cells #[.int .i64 a1_0, .slice A1_1 l1_1.length c1_1] 29 (0, 0)) (nb_ BK591.out) NB591_0.out (by simp))
    have n1_ := Aside0.mk (KeepBut.trans (nk_ HK.out) hk (.inl rfl))
    have n2_ := Aside0.mk (hb)
    have n3_ := Aside0.mk (hi)
    have z_HO600 := fun (h0_ : b 7 = true) => (show Kd.R (Kd.int .i64) 3 w17 w.heap.size (fun _ => True) v599 y598 from by first | exact (Kd.R_mono (Kd.R_keep (IsS106.apart (show IsS106 w0 _ g s0_0 s0_1 from ni106_82 HI0.out) (by (with_reducible repeat (first | apply Kd.R_alloc | apply Kd.R_drewN | apply Kd.R_drew)); exact (Q_HO600 h0_)) (by decide)) hk (fun _ h => h.2)) (fun _ h => h.1)) | exact Kd.R_mono (Kd.R_mono (Kd.R_keep (IsS106.apart (show IsS106 w0 _ g s0_0 s0_1 from ni106_82 HI0.out) (by (with_reducible repeat (first | apply Kd.R_alloc | apply Kd.R_drewN | apply Kd.R_drew)); exact (Q_HO600 h0_)) (by decide)) hk (fun _ h => h.2)) (fun _ h => h.1)) (fun _ h_ => by first | trivial | exact h_ | exact h_.1))
    clear BK591 HK HB HI0
    have BK591 := n0_
    have HK := n1_
    have HB := n2_
    have HI0 := n3_
    clear n0_ n1_ n2_ n3_
    (try clear hb)
    (try clear hb2)
    (try clear hk)
    (try clear hi)
    refine hK.out _ _ ⟨v599, v604, m10_, (by rw [ha.out]; exact putSel_upk 2 hb_ rfl rfl rfl), (nb_ BK591.out), fun h0_ => absurd ((up_self b 5).symm.trans h0_) (by decide), (nk_ HK.out), (ng106_82 HB.out), fun _ _ => (ni106_82 HI0.out), z_HO600, fun h0_ _ => absurd ((hoff 8 (by kernel_rfl)).symm.trans h0_) (by decide), fun h0_ => absurd ((hoff 9 (by kernel_rfl)).symm.trans h0_) (by decide), fun h0_ => absurd ((hoff 9 (by kernel_rfl)).symm.trans h0_) (by decide), fun h0_ => absurd ((hoff 10 (by kernel_rfl)).symm.trans h0_) (by decide)⟩
   refine steps_cons ?_ ?_
   ·rintro b a w' ⟨v599, v604, m10_, ha, Q_BK591, Q_HI0, Q_HK, Q_HB, Q_HI0_e5, Q_HO600, Q_HI0_e8, Q_HO605, Q_HI0_e9, Q_X10_⟩ hb_ hon hoff
    refine ⟨_, rfl, fun K hK => ?_⟩
    replace ha := Aside0.mk ha
    have BK591 := Aside0.mk Q_BK591
    have HK := Aside0.mk Q_HK
    have HB := Aside0.mk Q_HB
    refine ls_ 17 3 [3, 8, 21] [.int .i64 3, .int .i64 8, .int .i64 21] ?_
    intro v599 w17 ho18 hb hg_ hnew_
    clear hg_ hnew_
    (first | rw [← Ny598.out] at ho18 | (simp only [Int.reduceToNat] at ho18; rw [← Ny598.out] at ho18))
    have n0_ := Aside0.mk (Kd.R_lower ho18 (keep_size (w := w) (g := g) (row := none) (nk_ HK.out)))
    have n2_ := Aside0.mk (blk_below (g := gb591) (o := .cells #[.int .i64 a1_0, .slice A1_1 l1_1.length c1_1] 29 (0, 0)) (nb_ BK591.out) hb)
    have n3_ := Aside0.mk (KeepBut.trans (nk_ HK.out) (KeepBut.of_below hb g none) (.inl rfl))
    have n4_ := Aside0.mk (below_step (ne_ HB.out) hb)
    have z_HI0 := fun (h0_ : b 5 = false) => (show IsS106 w0 w17 g s0_0 s0_1 from by first | exact (IsS106.below (by repeat (first | (with_reducible first | exact (Q_HI0 h0_) | apply IsS106.alloc | apply IsS106.drewN | apply IsS106.drew | apply IsS106.set_1 | refine IsS106.far ?_ NB0_591.out _) | exact (Q_HI0 h0_))) hb))
    have z_HI0_e5 := fun (h0_ : b 5 = true) (h1_ : b 8 = false) => (show IsS106 w0 w17 g s0_0 t597 from by first | exact (IsS106.below (by repeat (first | (with_reducible first | exact (Q_HI0_e5 h0_ h1_) | apply IsS106.alloc | apply IsS106.drewN | apply IsS106.drew | apply IsS106.set_1 | refine IsS106.far ?_ NB0_591.out _) | exact (Q_HI0_e5 h0_ h1_))) hb))
    clear BK591 HK HB
    have HO600 := n0_
    have BK591 := n2_
    have HK := n3_
    have HB := n4_
    clear n0_ n2_ n3_ n4_ hb ho18
    refine hK.out _ _ ⟨v599, v604, m10_, (by rw [ha.out]; exact putSel_upk 3 hb_ rfl rfl rfl), (nb_ BK591.out), z_HI0, (nk_ HK.out), (ne_ HB.out), z_HI0_e5, fun _ => (nr_ HO600.out), fun h0_ _ => absurd ((hoff 8 (by kernel_rfl)).symm.trans h0_) (by decide), fun h0_ => absurd ((hoff 9 (by kernel_rfl)).symm.trans h0_) (by decide), fun h0_ => absurd ((hoff 9 (by kernel_rfl)).symm.trans h0_) (by decide), fun h0_ => absurd ((hoff 10 (by kernel_rfl)).symm.trans h0_) (by decide)⟩
   refine steps_cons ?_ ?_
   ·rintro b a w' ⟨v599, v604, m10_, ha, Q_BK591, Q_HI0, Q_HK, Q_HB, Q_HI0_e5, Q_HO600, Q_HI0_e8, Q_HO605, Q_HI0_e9, Q_X10_⟩ hb_ hon hoff
    refine ⟨_, rfl, fun K hK => ?_⟩
    have e16 : a.tmps[16]? = some (.pointer (some ⟨g, 0, none⟩)) := by rw [ha]; exact (putSel_off rfl).trans rfl
    have e17 : a.tmps[17]? = some (v599) := by rw [ha]; exact putSel_on (e := (7, 17, v599)) 3 rfl rfl (hon 7 (by kernel_rfl)) rfl
    replace ha := Aside0.mk ha
    have BK591 := Aside0.mk Q_BK591
    have HK := Aside0.mk Q_HK
    have HB := Aside0.mk Q_HB
    have HI0 := Aside0.mk (Q_HI0_e5 (hon 5 (by kernel_rfl)) hb_)
    have HO600 := Aside0.mk (Q_HO600 (hon 7 (by kernel_rfl)))
    obtain ⟨Ao21, co21, eo21⟩ := Kd.R_slice HO600.out
    (first | subst eo21 | (injection eo21 with f1_ f2_ f3_; have f4_ := f1_.symm; have f5_ := f3_.symm; clear f1_ f2_ f3_; subst f4_; subst f5_))
    refine goes_ Try.func99 (by kernel_rfl) rfl #[.pointer (some ⟨g, 0, none⟩), .slice Ao21 y598.length co21] (by rfl) rfl rfl (by first | (simp only [List.map_toArray, List.map_cons, List.map_nil, Act.eval, Array.getD_eq_getD_getElem?, Option.getD_some, e16, e17]; done) | (simp only [List.map_toArray, List.map_cons, List.map_nil, Act.eval, Array.getD_eq_getD_getElem?, Option.getD_some, e16, e17]; rfl)) ?_
    with_reducible refine (spec_l30Rd_one.calls k g s0_0 t597 _ _ y598 t601 t602 w0 _ ?side1 ?side2 ?side3 ?side4 ?side5 A6.out).mono ?_
    (case side1 => repeat (first | (with_reducible first | exact HI0.out | apply IsS106.alloc | apply IsS106.drewN | apply IsS106.drew | apply IsS106.set_1 | refine IsS106.far ?_ NB0_591.out _) | exact HI0.out))
    (case side2 => exact (ng106_82 HB.out))
    (case side3 => exact nc_ (Kd.R_reads' HO600.out).2.2)
    (case side4 => exact (Kd.R_reads' HO600.out).2.1)
    (case side5 => exact far_slice (IsS106.own_ne HI0.out HO600.out (by decide)))
    rintro e w22 ⟨rfl, hi, hb, hk⟩
    refine ⟨_, rfl, ?_⟩
    replace BK591 := kk_ BK591 hk NB591_0
    replace HO600 := Aside0.mk (Kd.R_mono (Kd.R_keep (IsS106.apart (show IsS106 w0 _ g s0_0 t597 from ni106_82 HI0.out) (nr_ HO600.out) (by decide)) hk (fun _ h => h.2)) (fun _ h => h.1))
    replace HK := Aside0.mk (KeepBut.trans (nk_ HK.out) hk (.inl rfl))
    replace HB := Aside0.mk (hb)
    replace HI0 := Aside0.mk (hi)
    (try clear hb)
    (try clear hb2)
    (try clear hk)
    (try clear hi)
    refine hK.out _ _ ⟨.slice Ao21 y598.length co21, v604, m10_, (by rw [ha.out]; exact putSel_upk 4 hb_ rfl rfl rfl), (nb_ BK591.out), fun h0_ => absurd ((hon 5 (by kernel_rfl)).symm.trans h0_) (by decide), (nk_ HK.out), (ng106_82 HB.out), fun _ h1_ => absurd ((up_self b 8).symm.trans h1_) (by decide), fun _ => (nr_ HO600.out), fun _ _ => (ni106_82 HI0.out), fun h0_ => absurd ((hoff 9 (by kernel_rfl)).symm.trans h0_) (by decide), fun h0_ => absurd ((hoff 9 (by kernel_rfl)).symm.trans h0_) (by decide), fun h0_ => absurd ((hoff 10 (by kernel_rfl)).symm.trans h0_) (by decide)⟩
   refine steps_cons ?_ ?_
   ·rintro b a w' ⟨v599, v604, m10_, ha, Q_BK591, Q_HI0, Q_HK, Q_HB, Q_HI0_e5, Q_HO600, Q_HI0_e8, Q_HO605, Q_HI0_e9, Q_X10_⟩ hb_ hon hoff
    refine ⟨_, rfl, fun K hK => ?_⟩
    have e10 : a.tmps[10]? = some (.pointer (some ⟨g, 0, none⟩)) := by rw [ha]; exact (putSel_off rfl).trans rfl
    have e11 : a.tmps[11]? = some (.agg #[.int .i64 a1_0, .slice A1_1 l1_1.length c1_1]) := by rw [ha]; exact putSel_on (e := (1, 11, .agg #[.int .i64 a1_0, .slice A1_1 l1_1.length c1_1])) 0 rfl rfl (hon 1 (by kernel_rfl)) rfl
    have e15 : a.tmps[15]? = some (.int .i64 t596) := by rw [ha]; exact putSel_on (e := (5, 15, .int .i64 t596)) 2 rfl rfl (hon 5 (by kernel_rfl)) rfl
    have e18 : a.tmps[18]? = some (.int .i64 t601) := by rw [ha]; exact putSel_on (e := (8, 18, .int .i64 t601)) 4 rfl rfl (hon 8 (by kernel_rfl)) rfl
    replace ha := Aside0.mk ha
    have BK591 := Aside0.mk Q_BK591
    have HK := Aside0.mk Q_HK
    have HB := Aside0.mk Q_HB
    have HO600 := Aside0.mk (Q_HO600 (hon 7 (by kernel_rfl)))
    have HI0 := Aside0.mk (Q_HI0_e8 (hon 8 (by kernel_rfl)) hb_)
    refine goes_ Try.func89 (by kernel_rfl) rfl #[.pointer (some ⟨g, 0, none⟩), .agg #[.int .i64 a1_0, .slice A1_1 l1_1.length c1_1], .int .i64 t596, .int .i64 t601] (by rfl) rfl rfl (by first | (simp only [List.map_toArray, List.map_cons, List.map_nil, Act.eval, Array.getD_eq_getD_getElem?, Option.getD_some, e10, e11, e15, e18]; done) | (simp only [List.map_toArray, List.map_cons, List.map_nil, Act.eval, Array.getD_eq_getD_getElem?, Option.getD_some, e10, e11, e15, e18]; rfl)) ?_
    with_reducible refine (spec_l30Walk.calls k g s0_0 t602 a1_0 _ _ l1_1 t596 t601 t603 t606 w0 _ ?side1 ?side2 ?side3 ?side4 A7.out).mono ?_
    (case side1 => repeat (first | (with_reducible first | exact HI0.out | apply IsS106.alloc | apply IsS106.drewN | apply IsS106.drew | apply IsS106.set_1 | refine IsS106.far ?_ NB0_591.out _) | exact HI0.out))
    (case side2 => exact (ng106_82 HB.out))
    (case side3 => exact Kd.C_foot_step HR1_1.out (nk_ HK.out))
    (case side4 => exact HC1_1.out)
    rintro e w23 ⟨v604, rfl, ho0, hi, hb, hk⟩
    refine ⟨_, rfl, ?_⟩
    replace BK591 := kk_ BK591 hk NB591_0
    have HO605 := Aside0.mk (Kd.R_lower (Kd.R_new' ho0 (Kd.R_lt (nr_ HO600.out))) (keep_size (w := w) (g := g) (row := none) (nk_ HK.out)))
    replace HO600 := Aside0.mk (Kd.R_mono (Kd.R_told (Kd.R_oldK (IsS106.apart (show IsS106 w0 _ g s0_0 t602 from ni106_82 HI0.out) (nr_ HO600.out) (by decide)) hk) (Kd.R_base ho0)) (fun _ h_ => h_.1))
    replace HK := Aside0.mk (KeepBut.trans (nk_ HK.out) hk (.inl rfl))
    replace HB := Aside0.mk (hb)
    replace HI0 := Aside0.mk (hi)
    (try clear hb)
    (try clear hb2)
    (try clear hk)
    (try clear hi)
    (try clear ho0)
    refine hK.out _ _ ⟨v599, v604, m10_, (by rw [ha.out]; exact putSel_upk 5 hb_ rfl rfl rfl), (nb_ BK591.out), fun h0_ => absurd ((hon 5 (by kernel_rfl)).symm.trans h0_) (by decide), (nk_ HK.out), (ng106_82 HB.out), fun _ h1_ => absurd ((hon 8 (by kernel_rfl)).symm.trans h1_) (by decide), fun _ => (by (with_reducible repeat (first | apply Kd.R_alloc | apply Kd.R_drewN | apply Kd.R_drew)); exact Kd.R_mono HO600.out (fun _ hk => by first | exact hk.2 | trivial | simp_all)), fun _ h1_ => absurd ((up_self b 9).symm.trans h1_) (by decide), fun _ => (by (with_reducible repeat (first | apply Kd.R_alloc | apply Kd.R_drewN | apply Kd.R_drew)); exact Kd.R_mono HO605.out (fun _ hk => by first | exact hk.2 | trivial | simp_all)), fun _ => (ni106_82 HI0.out), fun h0_ => absurd ((hoff 10 (by kernel_rfl)).symm.trans h0_) (by decide)⟩
   refine steps_cons ?_ ?_
   ·rintro b a w' ⟨v599, v604, m10_, ha, Q_BK591, Q_HI0, Q_HK, Q_HB, Q_HI0_e5, Q_HO600, Q_HI0_e8, Q_HO605, Q_HI0_e9, Q_X10_⟩ hb_ hon hoff
    refine ⟨_, rfl, fun K hK => ?_⟩
    have e19 : a.tmps[19]? = some (v604) := by rw [ha]; exact putSel_on (e := (9, 19, v604)) 5 rfl rfl (hon 9 (by kernel_rfl)) rfl
    replace ha := Aside0.mk ha
    have BK591 := Aside0.mk Q_BK591
    have HK := Aside0.mk Q_HK
    have HB := Aside0.mk Q_HB
    have HO600 := Aside0.mk (Q_HO600 (hon 7 (by kernel_rfl)))
    have HO605 := Aside0.mk (Q_HO605 (hon 9 (by kernel_rfl)))
    have HI0 := Aside0.mk (Q_HI0_e9 (hon 9 (by kernel_rfl)))
    refine value_ (w1 := w') (v := v604) (by rfl) rfl ?_ ?_
    ·go_simp
     (try simp only [i64_w])
     try rfl
    refine hK.out _ _ ⟨v599, v604, (v604), (by rw [ha.out]; exact putSel_upk 6 hb_ rfl rfl rfl), Q_BK591, fun h0_ => absurd ((hon 5 (by kernel_rfl)).symm.trans h0_) (by decide), Q_HK, Q_HB, fun _ h1_ => absurd ((hon 8 (by kernel_rfl)).symm.trans h1_) (by decide), Q_HO600, fun _ h1_ => absurd ((hon 9 (by kernel_rfl)).symm.trans h1_) (by decide), Q_HO605, Q_HI0_e9, fun _ => rfl⟩
   exact steps_nil
  rintro b a w23 hall ⟨v599, v604, m10_, ha, Q_BK591, Q_HI0, Q_HK, Q_HB, Q_HI0_e5, Q_HO600, Q_HI0_e8, Q_HO605, Q_HI0_e9, Q_X10_⟩
  clear BK591 HB HI0 HK
  have hb1_ := hall 1 (by kernel_rfl)
  have hb4_ := hall 4 (by kernel_rfl)
  have hb5_ := hall 5 (by kernel_rfl)
  have hb7_ := hall 7 (by kernel_rfl)
  have hb8_ := hall 8 (by kernel_rfl)
  have hb9_ := hall 9 (by kernel_rfl)
  have hb10_ := hall 10 (by kernel_rfl)
  subst ha
  obtain rfl := (Q_X10_ hb10_).symm
  simp only [putSel, hb1_, hb4_, hb5_, hb7_, hb8_, hb9_, hb10_, if_true, Act.put, List.setIfInBounds_toArray, List.set_cons_zero, List.set_cons_succ]
  have BK591 := Aside0.mk Q_BK591
  clear Q_BK591 Q_HI0
  have HK := Aside0.mk Q_HK
  clear Q_HK
  have HB := Aside0.mk Q_HB
  clear Q_HB Q_HI0_e5
  have HO600 := Aside0.mk (Q_HO600 hb7_)
  clear Q_HO600 Q_HI0_e8
  have HO605 := Aside0.mk (Q_HO605 hb9_)
  clear Q_HO605
  have HI0 := Aside0.mk (Q_HI0_e9 hb9_)
  clear Q_HI0_e9
  try replace HO600 := Aside0.mk (Go.Proofs.YtpjmkghmjpbldaaX.Kd.R_apart_back (fun _ _ _ _ _ _ h_ => h_) HO600.out HO605.out (fun k_ hk => by first | exact hk | exact hk | simp_all))
  clear hall hb1_ hb4_ hb5_ hb7_ hb8_ hb9_ hb10_
  try go_wp2_with (first | ((with_reducible refine gate_callee (f := 88) rfl ?_); refine gl_ (some 21) Try.func88 #[.pointer (some ⟨g, 0, none⟩), .int .i64 10] ?_; (with_reducible refine (spec_l30Rd_pick.calls k g s0_0 t606 10 t607 t608 w0 _ ?side1 ?side2 A8.out).mono ?_); (case side1 => repeat (first | (with_reducible first | exact HI0.out | apply IsS106.alloc | apply IsS106.drewN | apply IsS106.drew | apply IsS106.set_1 | refine IsS106.far ?_ NB0_591.out _) | exact HI0.out)); (case side2 => exact (ng106_82 HB.out)); rintro e w24 ⟨rfl, hi, hb, hk⟩; refine ⟨_, rfl, ?_⟩; replace BK591 := kk_ BK591 hk NB591_0; replace HO600 := Aside0.mk (Kd.R_mono (Kd.R_keep (IsS106.apart (show IsS106 w0 _ g s0_0 t606 from ni106_82 HI0.out) (nr_ HO600.out) (by decide)) hk (fun _ h => h.2)) (fun _ h => h.1)); replace HO605 := Aside0.mk (Kd.R_mono (Kd.R_keep (IsS106.apart (show IsS106 w0 _ g s0_0 t606 from ni106_82 HI0.out) (nr_ HO605.out) (by decide)) hk (fun _ h => h.2)) (fun _ h => h.1)); replace HK := Aside0.mk (KeepBut.trans (nk_ HK.out) hk (.inl rfl)); replace HB := Aside0.mk (hb); replace HI0 := Aside0.mk (hi); (try clear hb); (try clear hb2); (try clear hk); (try clear hi)) | ((with_reducible refine gate_callee (f := 88) rfl ?_); refine gl_ (some 25) Try.func88 #[.pointer (some ⟨g, 0, none⟩), .int .i64 17] ?_; (with_reducible refine (spec_l30Rd_pick.calls k g s0_0 t608 17 t609 t610 w0 _ ?side1 ?side2 A10.out).mono ?_); (case side1 => repeat (first | (with_reducible first | exact HI0.out | apply IsS106.alloc | apply IsS106.drewN | apply IsS106.drew | apply IsS106.set_1 | refine IsS106.far ?_ NB0_591.out _) | exact HI0.out)); (case side2 => exact (ng106_82 HB.out)); rintro e w25 ⟨rfl, hi, hb, hk⟩; refine ⟨_, rfl, ?_⟩; replace BK591 := kk_ BK591 hk NB591_0; replace HO600 := Aside0.mk (Kd.R_mono (Kd.R_keep (IsS106.apart (show IsS106 w0 _ g s0_0 t608 from ni106_82 HI0.out) (nr_ HO600.out) (by decide)) hk (fun _ h => h.2)) (fun _ h => h.1)); replace HO605 := Aside0.mk (Kd.R_mono (Kd.R_keep (IsS106.apart (show IsS106 w0 _ g s0_0 t608 from ni106_82 HI0.out) (nr_ HO605.out) (by decide)) hk (fun _ h => h.2)) (fun _ h => h.1)); replace HK := Aside0.mk (KeepBut.trans (nk_ HK.out) hk (.inl rfl)); replace HB := Aside0.mk (hb); replace HI0 := Aside0.mk (hi); (try clear hb); (try clear hb2); (try clear hk); (try clear hi)) | ((with_reducible refine gate_builtin (b := .append) (xs := #[.tmp 23, .tmp 27]) rfl ?_); at_builtin; refine Kd.R_append (Kd.int .i64) w.heap.size rfl (.tmp 23) (.tmp 27) 41 3 (.int .i64 0) 8 rfl Try.underlying41 info3 rfl (by decide) (by omega) v604 t603 (wrap64 (t609 - 1)) [.int .i64 (wrap64 (t609 - 1))] (fun k_ => some k_ ≠ (v599 : Value).ownBlock) (fun _ => False) rfl rfl ?aP (fun _ hk => hk.elim) ?aF ?aO (Below.refl _ _) ?aS ?aL ?_; (case aP => exact rfl); (case aF => exact (fun k_ hk => Kd.fresh' (Kd.R_lt (nr_ HO600.out)) k_ hk)); (case aO => exact (nr_ HO605.out)); (case aS => exact (keep_size (w := w) (g := g) (row := none) (nk_ HK.out))); (case aL => have := LMc11.out; omega); intro v612 w26 ho hb hg hat; rw [← Ny611.out] at ho; have HO613 := Aside0.mk (ho); replace HI0 := Aside0.mk (IsS106.grown (show IsS106 w0 _ g s0_0 t610 from ni106_82 HI0.out) hg (IsS106.own_ne HI0.out HO605.out (by decide))); replace BK591 := Aside0.mk (blk_grown (g := gb591) (o := .cells #[.int .i64 a1_0, .slice A1_1 l1_1.length c1_1] 29 (0, 0)) (nb_ BK591.out) hg (Kd.R_ne HO605.out BK591.out (by decide))); replace HO600 := Aside0.mk (Kd.R_after (ok := (fun _ => True)) (by (with_reducible repeat (first | apply Kd.R_alloc | apply Kd.R_drewN | apply Kd.R_drew)); exact Kd.R_mono HO600.out (fun _ hk => by first | exact ⟨trivial, hk⟩ | trivial | simp_all)) hg hat); replace HB := Aside0.mk (below_weaken (ng106_82 HB.out) HL.out hb); replace HK := Aside0.mk (KeepBut.trans (nk_ HK.out) (KeepBut.of_grown hg g) (Kd.R_base2 HO605.out)); clear HO605; clear ho hb hg hat))
  go_ret
  exact ⟨_, nw_, by (with_reducible repeat (first | apply Kd.R_alloc | apply Kd.R_drewN | apply Kd.R_drew)); exact Kd.R_mono HO613.out (fun _ hk => trivial), ni106_82 HI0.out, by repeat (first | (with_reducible first | exact HB.out | apply below_alloc | apply pw_below_drewN | apply below_drew1 | refine below_set ?_ (IsS106.ge HI0.out) | refine below_set ?_ GE591.out) | exact HB.out), nk_ HK.out⟩
end Go.Proofs.Ytpjmkghmjpbldaa.Print
