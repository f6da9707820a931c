-- Made by this session's own program (wip/patch_print.py, over the kit's print). Lean checks it.
import Derived.Test.YtcfmejfmjjgoaaaPrint0
import Derived.Test.YtcfmejfmjjgoaaaPrintB
import Derived.Test.YtcfmejfmjjgoaaaPrintF50
import Derived.Test.YtcfmejfmjjgoaaaPrintF83
namespace Go.Proofs.Ytcfmejfmjjgoaaa.Print
open Go.RowKit Go.Proofs.YtcfmejfmjjgoaaaW.PrintWords Go.Proofs.YtcfmejfmjjgoaaaW.PrintLast Go.Proofs.YtcfmejfmjjgoaaaW.PrintMore Go.Proofs.YtcfmejfmjjgoaaaX
attribute [local go_sem] max2_int min2_int max_two min_two max_three min_three max_four min_four   -- for this text's walks alone
set_option linter.unusedVariables false
set_option linter.unusedSimpArgs false

abbrev z57_0 := bm_ 11 0
abbrev z57_1 := bm_ 11 1
abbrev z57_2 := bm_ 11 5
abbrev z57_3 := bm_ 11 13
abbrev z57_4 := bm_ 11 77
theorem ng93_57 {B : Nat} {w W W' : World} (h : Below B w W) (e : Below B w W → Below B w W' := by intro h_; repeat (first | (with_reducible first | exact h_ | apply below_alloc | apply pw_below_drewN | apply below_drew1 | refine below_set ?_ (IsS93.ge (Aside0.out (by with_reducible assumption))) | refine below_set ?_ (Aside0.out (by with_reducible assumption))) | exact h_)) : Below B w W' := e h
theorem ni93_57 {p q : Prop} (h : p) (e : p → q := by intro h_; repeat (first | (with_reducible first | exact h_ | apply IsS93.alloc | apply IsS93.drewN | apply IsS93.drew | apply IsS93.set_1 | refine IsS93.far ?_ (Aside0.out (by with_reducible assumption)) _) | exact h_)) : q := e h
/-! ### spec_l30AnyWalk: function 57 -/
def spec_l30AnyWalk.f (k : Nat) (s0_0 : List Int) (s0_1 : Int) (a1_0 : Int) (l1_1 : List (S33)) : Option (List Int × Int) := (spec_l1Ok.f k a1_0 l1_1).bind fun t405 => (if t405 = true then ((spec_l30Rd_pick.f k s0_0 s0_1 a1_0).bind fun bt409 => ((spec_l30Rd_one.f k s0_0 bt409.2 (([3, 8, 21] : List Int))).bind fun bt414 => ((spec_l30Walk.f k s0_0 bt414.2 a1_0 l1_1 bt409.1 bt414.1).bind fun bt416 => ((spec_l30Rd_pick.f k s0_0 bt416.2 10).bind fun bt420 => (if bt420.1 = 0 then ((spec_l30Rd_pick.f k s0_0 bt420.2 17).bind fun bt422 => (if bt416.1.length < 17592186044416 then (some ((bt416.1 ++ [wrap64 (bt422.1 - 1)]), bt422.2)) else (none))) else (some (bt416.1, bt420.2))))))) else (some ((([0] : List Int)), s0_1)))
def spec_l30AnyWalk.T3 : Bool × List (List Nat × List Nat) := (true, [([], []), ([], []), ([], []), ([], []), ([3], [3]), ([2, 4], [2, 4]), ([], []), ([], []), ([6, 7, 5], [6, 7]), ([0, 1, 5, 8, 8], [0, 1, 5, 8]), ([9, 9, 0, 1, 2, 3, 4, 5, 6, 7, 8, 9], [9])])
def spec_l30AnyWalk.B3 : List Nat := [0, 0, 0, 0, 8, 28, 0, 0, 252, 511, 1023]
theorem spec_l30AnyWalk.tab3 : rtab .any (opsOf Try.f57 3) = spec_l30AnyWalk.T3 := by kernel_rfl
theorem spec_l30AnyWalk.bits3 : waitsOk spec_l30AnyWalk.T3.2 spec_l30AnyWalk.B3 = true := by kernel_rfl
set_option maxHeartbeats 200000000 in
set_option maxRecDepth 100000 in
theorem spec_l30AnyWalk.calls (k : Nat) (g : Nat) (s0_0 : List Int) (s0_1 : Int) (a1_0 : Int) (A1_1 : Option Addr) (c1_1 : Nat) (l1_1 : List (S33)) (r1 : List Int) (r2 : Int) (w0 w : World) (hI : IsS93 w0 w g s0_0 s0_1) (hB : Below w0.heap.size w0 w) (hr1_1 : ∀ W_, KeepBut w W_ g none → Kd.C k33 W_ A1_1 l1_1.length l1_1) (hc1_1 : l1_1.length ≤ c1_1) (h : spec_l30AnyWalk.f k s0_0 s0_1 a1_0 l1_1 = some (r1, r2)) :
    Calls Try.prog 57 #[.pointer (some ⟨g, 0, none⟩), .agg #[.int .i64 a1_0, .slice A1_1 l1_1.length c1_1]] w fun e w' => ∃ v0_ : Value, e = .returned (v0_) ∧ Kd.R (Kd.int .i64) 3 w' w.heap.size (fun _ => True) v0_ r1 ∧ IsS93 w0 w' g s0_0 r2 ∧ Below w0.heap.size w0 w' ∧ KeepBut w w' g none := by
  have hu25 := Try.underlying25
  have HR1_1 := Aside0.mk hr1_1
  have HC1_1 := Aside0.mk hc1_1
  clear hr1_1 hc1_1
  have HI0 := Aside0.mk hI
  have HK := Aside0.mk (KeepBut.refl w g none)
  have HL := Aside0.mk hB.size
  clear hI
  have HW0 := Aside0.mk hB.size
  have HB := Aside0.mk hB
  clear hB
  have H : ((spec_l1Ok.f k a1_0 l1_1).bind fun t405 => (if t405 = true then ((spec_l30Rd_pick.f k s0_0 s0_1 a1_0).bind fun bt409 => ((spec_l30Rd_one.f k s0_0 bt409.2 (([3, 8, 21] : List Int))).bind fun bt414 => ((spec_l30Walk.f k s0_0 bt414.2 a1_0 l1_1 bt409.1 bt414.1).bind fun bt416 => ((spec_l30Rd_pick.f k s0_0 bt416.2 10).bind fun bt420 => (if bt420.1 = 0 then ((spec_l30Rd_pick.f k s0_0 bt420.2 17).bind fun bt422 => (if bt416.1.length < 17592186044416 then (some ((bt416.1 ++ [wrap64 (bt422.1 - 1)]), bt422.2)) else (none))) else (some (bt416.1, bt420.2))))))) else (some ((([0] : List Int)), s0_1)))) = some (r1, r2) := h
  clear h
  replace H := Option.bind_eq_some_iff.mp H
  obtain ⟨t405, A30, H⟩ := H
  try dsimp only at H
  have A3 := Aside0.mk A30
  clear A30
  by_cases c4 : t405 = true
  rotate_left
  ·replace c4 := Bool.eq_false_iff.mpr c4
   subst c4
   have H1 : (some ((([0] : List Int)), s0_1)) = some (r1, r2) := by rw [if_neg (show ¬ (false = true) by decide)] at H; exact H
   clear H
   have H := H1
   clear H1
   obtain ⟨y406, hy406⟩ : ∃ y_ : List Int, y_ = (([0] : List Int)) := ⟨_, rfl⟩
   replace H : (some (y406, s0_1)) = some (r1, r2) := by first | (rw [hy406]; with_reducible exact H) | (have H2_ := (Option.bind_some _ _).symm.trans H; rw [hy406]; with_reducible exact H2_) | (have H2_ := (Option.bind_some _ _).symm.trans H; with_reducible exact H2_) | with_reducible exact H | (rw [hy406]; exact H) | exact H
   have Ny406 := Aside0.mk hy406
   clear hy406
   simp only [Option.some.injEq, Prod.mk.injEq] at H
   obtain ⟨rfl, rfl⟩ := H
   go_enter Try.func57, Try.ntmps57
   go_wp2_with (first | ((with_reducible refine gate_dst (N := 3) rfl ?_); refine bx_ 3 #[.int .i64 a1_0, .slice A1_1 l1_1.length c1_1] 25 ?_; intro gb404 hg w40 hbox hb; have BK404 := Aside0.mk (hbox); have GW404 := Aside0.mk (zk_ hg (nk_ HK.out)); have GE404 := Aside0.mk ((Nat.le_trans HW0.out (by rw [hg]; exact (keep_size (w := w) (g := g) (row := none) (nk_ HK.out)) : w.heap.size ≤ gb404) : w0.heap.size ≤ gb404)); have NB0_404 := Aside0.mk ((by rw [hg]; exact Nat.ne_of_lt (IsS93.lt (show IsS93 w0 _ g s0_0 s0_1 from ni93_57 HI0.out)) : g ≠ gb404)); have NB404_0 := Aside0.mk ((by rw [hg]; exact Nat.ne_of_gt (IsS93.lt (show IsS93 w0 _ g s0_0 s0_1 from ni93_57 HI0.out)) : gb404 ≠ g)); replace HI0 := Aside0.mk (IsS93.below (ni93_57 HI0.out) hb); replace HK := Aside0.mk (KeepBut.trans (nk_ HK.out) (KeepBut.of_below hb g none) (.inl rfl)); replace HB := Aside0.mk (below_step (ng93_57 HB.out) hb); clear hb hbox hg; have hnb41 := NB404_0.out; have hnc41 := NB0_404.out; obtain ⟨hcz42_0, hcz42_1, hfz42_0, hfz42_1⟩ := cz2_ BK404.out) | ((with_reducible refine gate_callee (f := 50) rfl ?_); refine gl_ (some 7) Try.func50 #[.agg #[.int .i64 a1_0, .slice A1_1 l1_1.length c1_1]] ?_; (with_reducible refine (spec_l1Ok.calls k a1_0 _ _ l1_1 false _ ?side1 ?side2 A3.out).mono ?_); (case side1 => exact Kd.C_foot_now HR1_1.out (nk_ HK.out)); (case side2 => exact HC1_1.out); rintro e w43 ⟨rfl, hb⟩; refine ⟨_, rfl, ?_⟩; replace HI0 := Aside0.mk (IsS93.below (ni93_57 HI0.out) hb); replace BK404 := kb_ BK404 hb; replace HK := Aside0.mk (KeepBut.trans (nk_ HK.out) (KeepBut.of_below hb g none) (.inl rfl)); replace HB := Aside0.mk (below_step (ng93_57 HB.out) hb); (try clear hb); (try clear hb2); (try clear hk); (try clear hi)) | ((with_reducible refine gate_dst (N := 9) rfl ?_); refine li_ 9 3 [0] [.int .i64 0] ?_; intro v407 w44 ho45 hb hg_ hnew_; clear hg_ hnew_; (first | rw [← Ny406.out] at ho45 | (simp only [Int.reduceToNat] at ho45; rw [← Ny406.out] at ho45)); have HO408 := Aside0.mk (Kd.R_lower ho45 (keep_size (w := w) (g := g) (row := none) (nk_ HK.out))); replace HI0 := Aside0.mk (IsS93.below (ni93_57 HI0.out) hb); replace BK404 := kb_ BK404 hb; replace HK := Aside0.mk (KeepBut.trans (nk_ HK.out) (KeepBut.of_below hb g none) (.inl rfl)); replace HB := Aside0.mk (below_step (ng93_57 HB.out) hb); clear hb ho45))
   go_ret
   exact ⟨_, nw_, nr_ HO408.out, ni93_57 HI0.out, by repeat (first | (with_reducible first | exact HB.out | apply below_alloc | apply pw_below_drewN | apply below_drew1 | refine below_set ?_ (IsS93.ge HI0.out) | refine below_set ?_ GE404.out) | exact HB.out), nk_ HK.out⟩

  subst c4
  rw [if_pos rfl] at H
  replace H := Option.bind_eq_some_iff.mp H
  obtain ⟨⟨t409, t410⟩, A50, H⟩ := H
  try dsimp only at H
  have A5 := Aside0.mk A50
  clear A50
  obtain ⟨y411, hy411⟩ : ∃ y_ : List Int, y_ = (([3, 8, 21] : List Int)) := ⟨_, rfl⟩
  replace H : ((spec_l30Rd_one.f k s0_0 t410 y411).bind fun bt414 => ((spec_l30Walk.f k s0_0 bt414.2 a1_0 l1_1 t409 bt414.1).bind fun bt416 => ((spec_l30Rd_pick.f k s0_0 bt416.2 10).bind fun bt420 => (if bt420.1 = 0 then ((spec_l30Rd_pick.f k s0_0 bt420.2 17).bind fun bt422 => (if bt416.1.length < 17592186044416 then (some ((bt416.1 ++ [wrap64 (bt422.1 - 1)]), bt422.2)) else (none))) else (some (bt416.1, bt420.2)))))) = some (r1, r2) := by first | (rw [hy411]; with_reducible exact H) | (have H2_ := (Option.bind_some _ _).symm.trans H; rw [hy411]; with_reducible exact H2_) | (have H2_ := (Option.bind_some _ _).symm.trans H; with_reducible exact H2_) | with_reducible exact H | (rw [hy411]; exact H) | exact H
  have Ny411 := Aside0.mk hy411
  clear hy411
  replace H := Option.bind_eq_some_iff.mp H
  obtain ⟨⟨t414, t415⟩, A60, H⟩ := H
  try dsimp only at H
  have A6 := Aside0.mk A60
  clear A60
  replace H := Option.bind_eq_some_iff.mp H
  obtain ⟨⟨t416, t419⟩, A70, H⟩ := H
  try dsimp only at H
  have A7 := Aside0.mk A70
  clear A70
  replace H := Option.bind_eq_some_iff.mp H
  obtain ⟨⟨t420, t421⟩, A80, H⟩ := H
  try dsimp only at H
  have A8 := Aside0.mk A80
  clear A80
  by_cases c9 : t420 = 0
  rotate_left
  ·rw [if_neg c9] at H
   have c9b0 : (t420 == 0) = false := beq_eq_false_iff_ne.mpr c9
   have c9b1 : (t420 != 0) = true := bne_iff_ne.mpr c9
   simp only [Option.some.injEq, Prod.mk.injEq] at H
   obtain ⟨rfl, rfl⟩ := H
   go_enter Try.func57, Try.ntmps57
   try go_wp2_with (first | ((with_reducible refine gate_dst (N := 3) rfl ?_); refine bx_ 3 #[.int .i64 a1_0, .slice A1_1 l1_1.length c1_1] 25 ?_; intro gb404 hg w27 hbox hb; have BK404 := Aside0.mk (hbox); have GW404 := Aside0.mk (zk_ hg (nk_ HK.out)); have GE404 := Aside0.mk ((Nat.le_trans HW0.out (by rw [hg]; exact (keep_size (w := w) (g := g) (row := none) (nk_ HK.out)) : w.heap.size ≤ gb404) : w0.heap.size ≤ gb404)); have NB0_404 := Aside0.mk ((by rw [hg]; exact Nat.ne_of_lt (IsS93.lt (show IsS93 w0 _ g s0_0 s0_1 from ni93_57 HI0.out)) : g ≠ gb404)); have NB404_0 := Aside0.mk ((by rw [hg]; exact Nat.ne_of_gt (IsS93.lt (show IsS93 w0 _ g s0_0 s0_1 from ni93_57 HI0.out)) : gb404 ≠ g)); replace HI0 := Aside0.mk (IsS93.below (ni93_57 HI0.out) hb); replace HK := Aside0.mk (KeepBut.trans (nk_ HK.out) (KeepBut.of_below hb g none) (.inl rfl)); replace HB := Aside0.mk (below_step (ng93_57 HB.out) hb); clear hb hbox hg; have hnb28 := NB404_0.out; have hnc28 := NB0_404.out; obtain ⟨hcz29_0, hcz29_1, hfz29_0, hfz29_1⟩ := cz2_ BK404.out) | ((with_reducible refine gate_callee (f := 50) rfl ?_); refine gl_ (some 7) Try.func50 #[.agg #[.int .i64 a1_0, .slice A1_1 l1_1.length c1_1]] ?_; (with_reducible refine (spec_l1Ok.calls k a1_0 _ _ l1_1 true _ ?side1 ?side2 A3.out).mono ?_); (case side1 => exact Kd.C_foot_now HR1_1.out (nk_ HK.out)); (case side2 => exact HC1_1.out); rintro e w30 ⟨rfl, hb⟩; refine ⟨_, rfl, ?_⟩; replace HI0 := Aside0.mk (IsS93.below (ni93_57 HI0.out) hb); replace BK404 := kb_ BK404 hb; replace HK := Aside0.mk (KeepBut.trans (nk_ HK.out) (KeepBut.of_below hb g none) (.inl rfl)); replace HB := Aside0.mk (below_step (ng93_57 HB.out) hb); (try clear hb); (try clear hb2); (try clear hk); (try clear hi)))
   replace BK404 := Aside0.mk (blk_drew BK404.out)
   replace HI0 := Aside0.mk (IsS93.drew HI0.out)
   replace HK := Aside0.mk (keep_drew HK.out)
   replace HB := Aside0.mk (below_drew1 HB.out)
   refine start_ (n := 11) (S := fun w' => True) (ds := []) z57_0 (by kernel_rfl) rfl rfl trivial (fun hHeld => ?_); refine with_tabW spec_l30AnyWalk.tab3 spec_l30AnyWalk.bits3 (fun HT_ HW_ => ?_)
   generalize w30.drew = w31 at BK404 HI0 HK HB hHeld ⊢
   refine pu_ 0 10 z57_1 HT_.out ?_
   refine pu_ 2 12 z57_2 HT_.out ?_
   refine pu_ 3 13 z57_3 HT_.out ?_
   refine pu_ 6 16 z57_4 HT_.out ?_
   refine inv_at [1, 4, 5, 7, 8, 9, 10] (fun a0_ b a w' => ∃ (v412 : Value) (v417 : Value) (m10_ : Value), a = putSel a0_ b [(1, 11, .agg #[.int .i64 a1_0, .slice A1_1 l1_1.length c1_1]), (4, 14, .int .i64 a1_0), (5, 15, .int .i64 t409), (7, 17, v412), (8, 18, .int .i64 t414), (9, 19, v417), (10, 5, m10_)] ∧ (w'.heap[gb404]? = some (.cells #[.int .i64 a1_0, .slice A1_1 l1_1.length c1_1] 25 (0, 0))) ∧ (b 5 = false → IsS93 w0 w' g s0_0 s0_1) ∧ (KeepBut w w' g none) ∧ (Below w0.heap.size w0 w') ∧ (b 5 = true → b 8 = false → IsS93 w0 w' g s0_0 t410) ∧ (b 7 = true → Kd.R (Kd.int .i64) 3 w' w.heap.size (fun _ => True) v412 y411) ∧ (b 8 = true → b 9 = false → IsS93 w0 w' g s0_0 t415) ∧ (b 9 = true → Kd.R (Kd.int .i64) 3 w' w.heap.size (fun k_ => some k_ ≠ (v412 : Value).ownBlock) v417 t416) ∧ (b 9 = true → IsS93 w0 w' g s0_0 t419) ∧ (b 10 = true → (m10_ : Value) = v417)) HT_.out HW_.out (by kernel_rfl) (by kernel_rfl) ?_ ?_ ?_
   ·exact ⟨.bool false, .bool false, .bool false, by simp only [putSel, Bool.false_eq_true, if_false], BK404.out, fun _ => HI0.out, HK.out, HB.out, fun h_ => absurd h_ (by decide), fun h_ => absurd h_ (by decide), fun h_ => absurd h_ (by decide), fun h_ => absurd h_ (by decide), fun h_ => absurd h_ (by decide), fun h_ => absurd h_ (by decide)⟩
   ·skip
    clear BK404 HB HI0 HK
    refine steps_cons ?_ ?_
    ·rintro b a w' ⟨v412, v417, m10_, ha, Q_BK404, Q_HI0, Q_HK, Q_HB, Q_HI0_e5, Q_HO413, Q_HI0_e8, Q_HO418, Q_HI0_e9, Q_X10_⟩ hb_ hon hoff
     refine ⟨_, rfl, fun K hK => ?_⟩
     have e3 : a.tmps[3]? = some (.pointer (some ⟨gb404, 0, none⟩)) := by rw [ha]; exact (putSel_off rfl).trans rfl
     replace ha := Aside0.mk ha
     have BK404 := Aside0.mk Q_BK404
     have HK := Aside0.mk Q_HK
     have HB := Aside0.mk Q_HB
     have hc0_ : w'.cell? ⟨gb404, 0, none⟩ = some (.int .i64 a1_0) := ct_ BK404.out 0
     have hc1_ : w'.cell? ⟨gb404, 1, none⟩ = some (.slice A1_1 l1_1.length c1_1) := ct_ BK404.out 1
     refine value_ (w1 := w') (v := .agg #[.int .i64 a1_0, .slice A1_1 l1_1.length c1_1]) (by rfl) rfl ?_ ?_
     ·go_simp
      (try simp only [i64_w])
      try rfl
     refine hK.out _ _ ⟨v412, v417, m10_, (by rw [ha.out]; exact putSel_upk 0 hb_ rfl rfl rfl), Q_BK404, Q_HI0, Q_HK, Q_HB, Q_HI0_e5, Q_HO413, Q_HI0_e8, fun h0_ => absurd ((hoff 9 (by kernel_rfl)).symm.trans h0_) (by decide), fun h0_ => absurd ((hoff 9 (by kernel_rfl)).symm.trans h0_) (by decide), fun h0_ => absurd ((hoff 10 (by kernel_rfl)).symm.trans h0_) (by decide)⟩
    refine steps_cons ?_ ?_
    ·rintro b a w' ⟨v412, v417, m10_, ha, Q_BK404, Q_HI0, Q_HK, Q_HB, Q_HI0_e5, Q_HO413, Q_HI0_e8, Q_HO418, Q_HI0_e9, Q_X10_⟩ hb_ hon hoff
     refine ⟨_, rfl, fun K hK => ?_⟩
     have e13 : a.tmps[13]? = some (.pointer (some ⟨gb404, 0, none⟩)) := by rw [ha]; exact (putSel_off rfl).trans rfl
     replace ha := Aside0.mk ha
     have BK404 := Aside0.mk Q_BK404
     have HI0 := Aside0.mk (Q_HI0 (hoff 5 (by kernel_rfl)))
     have HK := Aside0.mk Q_HK
     have HB := Aside0.mk Q_HB
     have hc0_ : w'.cell? ⟨gb404, 0, none⟩ = some (.int .i64 a1_0) := ct_ BK404.out 0
     have hc1_ : w'.cell? ⟨gb404, 1, none⟩ = some (.slice A1_1 l1_1.length c1_1) := ct_ BK404.out 1
     refine value_ (w1 := w') (v := .int .i64 a1_0) (by rfl) rfl ?_ ?_
     ·go_simp
      (try simp only [i64_w])
      try rfl
     refine hK.out _ _ ⟨v412, v417, m10_, (by rw [ha.out]; exact putSel_upk 1 hb_ rfl rfl rfl), Q_BK404, Q_HI0, Q_HK, Q_HB, fun h0_ _ => absurd ((hoff 5 (by kernel_rfl)).symm.trans h0_) (by decide), Q_HO413, fun h0_ _ => absurd ((hoff 8 (by kernel_rfl)).symm.trans h0_) (by decide), fun h0_ => absurd ((hoff 9 (by kernel_rfl)).symm.trans h0_) (by decide), fun h0_ => absurd ((hoff 9 (by kernel_rfl)).symm.trans h0_) (by decide), fun h0_ => absurd ((hoff 10 (by kernel_rfl)).symm.trans h0_) (by decide)⟩
    refine steps_cons ?_ ?_
    ·rintro b a w' ⟨v412, v417, m10_, ha, Q_BK404, Q_HI0, Q_HK, Q_HB, Q_HI0_e5, Q_HO413, Q_HI0_e8, Q_HO418, Q_HI0_e9, Q_X10_⟩ hb_ hon hoff
     refine ⟨_, rfl, fun K hK => ?_⟩
     have e12 : a.tmps[12]? = some (.pointer (some ⟨g, 0, none⟩)) := by rw [ha]; exact (putSel_off rfl).trans rfl
     have e14 : a.tmps[14]? = some (.int .i64 a1_0) := by rw [ha]; exact putSel_on (e := (4, 14, .int .i64 a1_0)) 1 rfl rfl (hon 4 (by kernel_rfl)) rfl
     replace ha := Aside0.mk ha
     have BK404 := Aside0.mk Q_BK404
     have HI0 := Aside0.mk (Q_HI0 hb_)
     have HK := Aside0.mk Q_HK
     have HB := Aside0.mk Q_HB
     refine goes_ Try.func78 (by kernel_rfl) rfl #[.pointer (some ⟨g, 0, none⟩), .int .i64 a1_0] (by rfl) rfl rfl (by first | (simp only [List.map_toArray, List.map_cons, List.map_nil, Act.eval, Array.getD_eq_getD_getElem?, Option.getD_some, e12, e14]; done) | (simp only [List.map_toArray, List.map_cons, List.map_nil, Act.eval, Array.getD_eq_getD_getElem?, Option.getD_some, e12, e14]; rfl)) ?_
     with_reducible refine (spec_l30Rd_pick.calls k g s0_0 s0_1 a1_0 t409 t410 w0 _ ?side1 ?side2 A5.out).mono ?_
     (case side1 => repeat (first | (with_reducible first | exact HI0.out | apply IsS93.alloc | apply IsS93.drewN | apply IsS93.drew | apply IsS93.set_1 | refine IsS93.far ?_ NB0_404.out _) | exact HI0.out))
     (case side2 => exact (ng93_57 HB.out))
     rintro e w32 ⟨rfl, hi, hb, hk⟩
     refine ⟨_, rfl, ?_⟩
     have n0_ := Aside0.mk (KeepBut.blk hk (g' := gb404) (o := .cells #[.int .i64 a1_0, .slice A1_1 l1_1.length c1_1] 25 (0, 0)) (nb_ BK404.out) NB404_0.out (by simp))
     have n1_ := Aside0.mk (KeepBut.trans (nk_ HK.out) hk (.inl rfl))
     have n2_ := Aside0.mk (hb)
     have n3_ := Aside0.mk (hi)
     have z_HO413 := fun (h0_ : b 7 = true) => (show Kd.R (Kd.int .i64) 3 w32 w.heap.size (fun _ => True) v412 y411 from by first | exact (Kd.R_mono (Kd.R_keep (IsS93.apart (show IsS93 w0 _ g s0_0 s0_1 from ni93_57 HI0.out) (by (with_reducible repeat (first | apply Kd.R_alloc | apply Kd.R_drewN | apply Kd.R_drew)); exact (Q_HO413 h0_)) (by decide)) hk (fun _ h => h.2)) (fun _ h => h.1)) | exact Kd.R_mono (Kd.R_mono (Kd.R_keep (IsS93.apart (show IsS93 w0 _ g s0_0 s0_1 from ni93_57 HI0.out) (by (with_reducible repeat (first | apply Kd.R_alloc | apply Kd.R_drewN | apply Kd.R_drew)); exact (Q_HO413 h0_)) (by decide)) hk (fun _ h => h.2)) (fun _ h => h.1)) (fun _ h_ => by first | trivial | exact h_ | exact h_.1))
     clear BK404 HK HB HI0
     have BK404 := n0_
     have HK := n1_
     have HB := n2_
     have HI0 := n3_
     clear n0_ n1_ n2_ n3_
     (try clear hb)
     (try clear hb2)
     (try clear hk)
     (try clear hi)
     refine hK.out _ _ ⟨v412, v417, m10_, (by rw [ha.out]; exact putSel_upk 2 hb_ rfl rfl rfl), (nb_ BK404.out), fun h0_ => absurd ((up_self b 5).symm.trans h0_) (by decide), (nk_ HK.out), (ng93_57 HB.out), fun _ _ => (ni93_57 HI0.out), z_HO413, fun h0_ _ => absurd ((hoff 8 (by kernel_rfl)).symm.trans h0_) (by decide), fun h0_ => absurd ((hoff 9 (by kernel_rfl)).symm.trans h0_) (by decide), fun h0_ => absurd ((hoff 9 (by kernel_rfl)).symm.trans h0_) (by decide), fun h0_ => absurd ((hoff 10 (by kernel_rfl)).symm.trans h0_) (by decide)⟩
    refine steps_cons ?_ ?_
    ·rintro b a w' ⟨v412, v417, m10_, ha, Q_BK404, Q_HI0, Q_HK, Q_HB, Q_HI0_e5, Q_HO413, Q_HI0_e8, Q_HO418, Q_HI0_e9, Q_X10_⟩ hb_ hon hoff
     refine ⟨_, rfl, fun K hK => ?_⟩
     replace ha := Aside0.mk ha
     have BK404 := Aside0.mk Q_BK404
     have HK := Aside0.mk Q_HK
     have HB := Aside0.mk Q_HB
     refine ls_ 17 3 [3, 8, 21] [.int .i64 3, .int .i64 8, .int .i64 21] ?_
     intro v412 w32 ho33 hb hg_ hnew_
     clear hg_ hnew_
     (first | rw [← Ny411.out] at ho33 | (simp only [Int.reduceToNat] at ho33; rw [← Ny411.out] at ho33))
     have n0_ := Aside0.mk (Kd.R_lower ho33 (keep_size (w := w) (g := g) (row := none) (nk_ HK.out)))
     have n2_ := Aside0.mk (blk_below (g := gb404) (o := .cells #[.int .i64 a1_0, .slice A1_1 l1_1.length c1_1] 25 (0, 0)) (nb_ BK404.out) hb)
     have n3_ := Aside0.mk (KeepBut.trans (nk_ HK.out) (KeepBut.of_below hb g none) (.inl rfl))
     have n4_ := Aside0.mk (below_step (ne_ HB.out) hb)
     have z_HI0 := fun (h0_ : b 5 = false) => (show IsS93 w0 w32 g s0_0 s0_1 from by first | exact (IsS93.below (by repeat (first | (with_reducible first | exact (Q_HI0 h0_) | apply IsS93.alloc | apply IsS93.drewN | apply IsS93.drew | apply IsS93.set_1 | refine IsS93.far ?_ NB0_404.out _) | exact (Q_HI0 h0_))) hb))
     have z_HI0_e5 := fun (h0_ : b 5 = true) (h1_ : b 8 = false) => (show IsS93 w0 w32 g s0_0 t410 from by first | exact (IsS93.below (by repeat (first | (with_reducible first | exact (Q_HI0_e5 h0_ h1_) | apply IsS93.alloc | apply IsS93.drewN | apply IsS93.drew | apply IsS93.set_1 | refine IsS93.far ?_ NB0_404.out _) | exact (Q_HI0_e5 h0_ h1_))) hb))
     clear BK404 HK HB
     have HO413 := n0_
     have BK404 := n2_
     have HK := n3_
     have HB := n4_
     clear n0_ n2_ n3_ n4_ hb ho33
     refine hK.out _ _ ⟨v412, v417, m10_, (by rw [ha.out]; exact putSel_upk 3 hb_ rfl rfl rfl), (nb_ BK404.out), z_HI0, (nk_ HK.out), (ne_ HB.out), z_HI0_e5, fun _ => (nr_ HO413.out), fun h0_ _ => absurd ((hoff 8 (by kernel_rfl)).symm.trans h0_) (by decide), fun h0_ => absurd ((hoff 9 (by kernel_rfl)).symm.trans h0_) (by decide), fun h0_ => absurd ((hoff 9 (by kernel_rfl)).symm.trans h0_) (by decide), fun h0_ => absurd ((hoff 10 (by kernel_rfl)).symm.trans h0_) (by decide)⟩
    refine steps_cons ?_ ?_
    ·rintro b a w' ⟨v412, v417, m10_, ha, Q_BK404, Q_HI0, Q_HK, Q_HB, Q_HI0_e5, Q_HO413, Q_HI0_e8, Q_HO418, Q_HI0_e9, Q_X10_⟩ hb_ hon hoff
     refine ⟨_, rfl, fun K hK => ?_⟩
     have e16 : a.tmps[16]? = some (.pointer (some ⟨g, 0, none⟩)) := by rw [ha]; exact (putSel_off rfl).trans rfl
     have e17 : a.tmps[17]? = some (v412) := by rw [ha]; exact putSel_on (e := (7, 17, v412)) 3 rfl rfl (hon 7 (by kernel_rfl)) rfl
     replace ha := Aside0.mk ha
     have BK404 := Aside0.mk Q_BK404
     have HK := Aside0.mk Q_HK
     have HB := Aside0.mk Q_HB
     have HI0 := Aside0.mk (Q_HI0_e5 (hon 5 (by kernel_rfl)) hb_)
     have HO413 := Aside0.mk (Q_HO413 (hon 7 (by kernel_rfl)))
     obtain ⟨Ao36, co36, eo36⟩ := Kd.R_slice HO413.out
     (first | subst eo36 | (injection eo36 with f1_ f2_ f3_; have f4_ := f1_.symm; have f5_ := f3_.symm; clear f1_ f2_ f3_; subst f4_; subst f5_))
     refine goes_ Try.func79 (by kernel_rfl) rfl #[.pointer (some ⟨g, 0, none⟩), .slice Ao36 y411.length co36] (by rfl) rfl rfl (by first | (simp only [List.map_toArray, List.map_cons, List.map_nil, Act.eval, Array.getD_eq_getD_getElem?, Option.getD_some, e16, e17]; done) | (simp only [List.map_toArray, List.map_cons, List.map_nil, Act.eval, Array.getD_eq_getD_getElem?, Option.getD_some, e16, e17]; rfl)) ?_
     with_reducible refine (spec_l30Rd_one.calls k g s0_0 t410 _ _ y411 t414 t415 w0 _ ?side1 ?side2 ?side3 ?side4 ?side5 A6.out).mono ?_
     (case side1 => repeat (first | (with_reducible first | exact HI0.out | apply IsS93.alloc | apply IsS93.drewN | apply IsS93.drew | apply IsS93.set_1 | refine IsS93.far ?_ NB0_404.out _) | exact HI0.out))
     (case side2 => exact (ng93_57 HB.out))
     (case side3 => exact nc_ (Kd.R_reads' HO413.out).2.2)
     (case side4 => exact (Kd.R_reads' HO413.out).2.1)
     (case side5 => exact far_slice (IsS93.own_ne HI0.out HO413.out (by decide)))
     rintro e w37 ⟨rfl, hi, hb, hk⟩
     refine ⟨_, rfl, ?_⟩
     replace BK404 := kk_ BK404 hk NB404_0
     replace HO413 := Aside0.mk (Kd.R_mono (Kd.R_keep (IsS93.apart (show IsS93 w0 _ g s0_0 t410 from ni93_57 HI0.out) (nr_ HO413.out) (by decide)) hk (fun _ h => h.2)) (fun _ h => h.1))
     replace HK := Aside0.mk (KeepBut.trans (nk_ HK.out) hk (.inl rfl))
     replace HB := Aside0.mk (hb)
     replace HI0 := Aside0.mk (hi)
     (try clear hb)
     (try clear hb2)
     (try clear hk)
     (try clear hi)
     refine hK.out _ _ ⟨.slice Ao36 y411.length co36, v417, m10_, (by rw [ha.out]; exact putSel_upk 4 hb_ rfl rfl rfl), (nb_ BK404.out), fun h0_ => absurd ((hon 5 (by kernel_rfl)).symm.trans h0_) (by decide), (nk_ HK.out), (ng93_57 HB.out), fun _ h1_ => absurd ((up_self b 8).symm.trans h1_) (by decide), fun _ => (nr_ HO413.out), fun _ _ => (ni93_57 HI0.out), fun h0_ => absurd ((hoff 9 (by kernel_rfl)).symm.trans h0_) (by decide), fun h0_ => absurd ((hoff 9 (by kernel_rfl)).symm.trans h0_) (by decide), fun h0_ => absurd ((hoff 10 (by kernel_rfl)).symm.trans h0_) (by decide)⟩
    refine steps_cons ?_ ?_
    ·rintro b a w' ⟨v412, v417, m10_, ha, Q_BK404, Q_HI0, Q_HK, Q_HB, Q_HI0_e5, Q_HO413, Q_HI0_e8, Q_HO418, Q_HI0_e9, Q_X10_⟩ hb_ hon hoff
     refine ⟨_, rfl, fun K hK => ?_⟩
     have e10 : a.tmps[10]? = some (.pointer (some ⟨g, 0, none⟩)) := by rw [ha]; exact (putSel_off rfl).trans rfl
     have e11 : a.tmps[11]? = some (.agg #[.int .i64 a1_0, .slice A1_1 l1_1.length c1_1]) := by rw [ha]; exact putSel_on (e := (1, 11, .agg #[.int .i64 a1_0, .slice A1_1 l1_1.length c1_1])) 0 rfl rfl (hon 1 (by kernel_rfl)) rfl
     have e15 : a.tmps[15]? = some (.int .i64 t409) := by rw [ha]; exact putSel_on (e := (5, 15, .int .i64 t409)) 2 rfl rfl (hon 5 (by kernel_rfl)) rfl
     have e18 : a.tmps[18]? = some (.int .i64 t414) := by rw [ha]; exact putSel_on (e := (8, 18, .int .i64 t414)) 4 rfl rfl (hon 8 (by kernel_rfl)) rfl
     replace ha := Aside0.mk ha
     have BK404 := Aside0.mk Q_BK404
     have HK := Aside0.mk Q_HK
     have HB := Aside0.mk Q_HB
     have HO413 := Aside0.mk (Q_HO413 (hon 7 (by kernel_rfl)))
     have HI0 := Aside0.mk (Q_HI0_e8 (hon 8 (by kernel_rfl)) hb_)
     refine goes_ Try.func83 (by kernel_rfl) rfl #[.pointer (some ⟨g, 0, none⟩), .agg #[.int .i64 a1_0, .slice A1_1 l1_1.length c1_1], .int .i64 t409, .int .i64 t414] (by rfl) rfl rfl (by first | (simp only [List.map_toArray, List.map_cons, List.map_nil, Act.eval, Array.getD_eq_getD_getElem?, Option.getD_some, e10, e11, e15, e18]; done) | (simp only [List.map_toArray, List.map_cons, List.map_nil, Act.eval, Array.getD_eq_getD_getElem?, Option.getD_some, e10, e11, e15, e18]; rfl)) ?_
     with_reducible refine (spec_l30Walk.calls k g s0_0 t415 a1_0 _ _ l1_1 t409 t414 t416 t419 w0 _ ?side1 ?side2 ?side3 ?side4 A7.out).mono ?_
     (case side1 => repeat (first | (with_reducible first | exact HI0.out | apply IsS93.alloc | apply IsS93.drewN | apply IsS93.drew | apply IsS93.set_1 | refine IsS93.far ?_ NB0_404.out _) | exact HI0.out))
     (case side2 => exact (ng93_57 HB.out))
     (case side3 => exact Kd.C_foot_step HR1_1.out (nk_ HK.out))
     (case side4 => exact HC1_1.out)
     rintro e w38 ⟨v417, rfl, ho0, hi, hb, hk⟩
     refine ⟨_, rfl, ?_⟩
     replace BK404 := kk_ BK404 hk NB404_0
     have HO418 := Aside0.mk (Kd.R_lower (Kd.R_new' ho0 (Kd.R_lt (nr_ HO413.out))) (keep_size (w := w) (g := g) (row := none) (nk_ HK.out)))
     replace HO413 := Aside0.mk (Kd.R_mono (Kd.R_told (Kd.R_oldK (IsS93.apart (show IsS93 w0 _ g s0_0 t415 from ni93_57 HI0.out) (nr_ HO413.out) (by decide)) hk) (Kd.R_base ho0)) (fun _ h_ => h_.1))
     replace HK := Aside0.mk (KeepBut.trans (nk_ HK.out) hk (.inl rfl))
     replace HB := Aside0.mk (hb)
     replace HI0 := Aside0.mk (hi)
     (try clear hb)
     (try clear hb2)
     (try clear hk)
     (try clear hi)
     (try clear ho0)
     refine hK.out _ _ ⟨v412, v417, m10_, (by rw [ha.out]; exact putSel_upk 5 hb_ rfl rfl rfl), (nb_ BK404.out), fun h0_ => absurd ((hon 5 (by kernel_rfl)).symm.trans h0_) (by decide), (nk_ HK.out), (ng93_57 HB.out), fun _ h1_ => absurd ((hon 8 (by kernel_rfl)).symm.trans h1_) (by decide), fun _ => (by (with_reducible repeat (first | apply Kd.R_alloc | apply Kd.R_drewN | apply Kd.R_drew)); exact Kd.R_mono HO413.out (fun _ hk => by first | exact hk.2 | trivial | simp_all)), fun _ h1_ => absurd ((up_self b 9).symm.trans h1_) (by decide), fun _ => (by (with_reducible repeat (first | apply Kd.R_alloc | apply Kd.R_drewN | apply Kd.R_drew)); exact Kd.R_mono HO418.out (fun _ hk => by first | exact hk.2 | trivial | simp_all)), fun _ => (ni93_57 HI0.out), fun h0_ => absurd ((hoff 10 (by kernel_rfl)).symm.trans h0_) (by decide)⟩
    refine steps_cons ?_ ?_
    ·rintro b a w' ⟨v412, v417, m10_, ha, Q_BK404, Q_HI0, Q_HK, Q_HB, Q_HI0_e5, Q_HO413, Q_HI0_e8, Q_HO418, Q_HI0_e9, Q_X10_⟩ hb_ hon hoff
     refine ⟨_, rfl, fun K hK => ?_⟩
     have e19 : a.tmps[19]? = some (v417) := by rw [ha]; exact putSel_on (e := (9, 19, v417)) 5 rfl rfl (hon 9 (by kernel_rfl)) rfl
     replace ha := Aside0.mk ha
     have BK404 := Aside0.mk Q_BK404
     have HK := Aside0.mk Q_HK
     have HB := Aside0.mk Q_HB
     have HO413 := Aside0.mk (Q_HO413 (hon 7 (by kernel_rfl)))
     have HO418 := Aside0.mk (Q_HO418 (hon 9 (by kernel_rfl)))
     have HI0 := Aside0.mk (Q_HI0_e9 (hon 9 (by kernel_rfl)))
     refine value_ (w1 := w') (v := v417) (by rfl) rfl ?_ ?_
     ·go_simp
      (try simp only [i64_w])
      try rfl
     refine hK.out _ _ ⟨v412, v417, (v417), (by rw [ha.out]; exact putSel_upk 6 hb_ rfl rfl rfl), Q_BK404, fun h0_ => absurd ((hon 5 (by kernel_rfl)).symm.trans h0_) (by decide), Q_HK, Q_HB, fun _ h1_ => absurd ((hon 8 (by kernel_rfl)).symm.trans h1_) (by decide), Q_HO413, fun _ h1_ => absurd ((hon 9 (by kernel_rfl)).symm.trans h1_) (by decide), Q_HO418, Q_HI0_e9, fun _ => rfl⟩
    exact steps_nil
   rintro b a w38 hall ⟨v412, v417, m10_, ha, Q_BK404, Q_HI0, Q_HK, Q_HB, Q_HI0_e5, Q_HO413, Q_HI0_e8, Q_HO418, Q_HI0_e9, Q_X10_⟩
   clear BK404 HB HI0 HK
   have hb1_ := hall 1 (by kernel_rfl)
   have hb4_ := hall 4 (by kernel_rfl)
   have hb5_ := hall 5 (by kernel_rfl)
   have hb7_ := hall 7 (by kernel_rfl)
   have hb8_ := hall 8 (by kernel_rfl)
   have hb9_ := hall 9 (by kernel_rfl)
   have hb10_ := hall 10 (by kernel_rfl)
   subst ha
   obtain rfl := (Q_X10_ hb10_).symm
   simp only [putSel, hb1_, hb4_, hb5_, hb7_, hb8_, hb9_, hb10_, if_true, Act.put, List.setIfInBounds_toArray, List.set_cons_zero, List.set_cons_succ]
   have BK404 := Aside0.mk Q_BK404
   clear Q_BK404 Q_HI0
   have HK := Aside0.mk Q_HK
   clear Q_HK
   have HB := Aside0.mk Q_HB
   clear Q_HB Q_HI0_e5
   have HO413 := Aside0.mk (Q_HO413 hb7_)
   clear Q_HO413 Q_HI0_e8
   have HO418 := Aside0.mk (Q_HO418 hb9_)
   clear Q_HO418
   have HI0 := Aside0.mk (Q_HI0_e9 hb9_)
   clear Q_HI0_e9
   try replace HO413 := Aside0.mk (Go.Proofs.YtcfmejfmjjgoaaaX.Kd.R_apart_back (fun _ _ _ _ _ _ h_ => h_) HO413.out HO418.out (fun k_ hk => by first | exact hk | exact hk | simp_all))
   clear hall hb1_ hb4_ hb5_ hb7_ hb8_ hb9_ hb10_
   try go_wp2_with (first | ((with_reducible refine gate_callee (f := 78) rfl ?_); refine gl_ (some 21) Try.func78 #[.pointer (some ⟨g, 0, none⟩), .int .i64 10] ?_; (with_reducible refine (spec_l30Rd_pick.calls k g s0_0 t419 10 t420 t421 w0 _ ?side1 ?side2 A8.out).mono ?_); (case side1 => repeat (first | (with_reducible first | exact HI0.out | apply IsS93.alloc | apply IsS93.drewN | apply IsS93.drew | apply IsS93.set_1 | refine IsS93.far ?_ NB0_404.out _) | exact HI0.out)); (case side2 => exact (ng93_57 HB.out)); rintro e w39 ⟨rfl, hi, hb, hk⟩; refine ⟨_, rfl, ?_⟩; replace BK404 := kk_ BK404 hk NB404_0; replace HO413 := Aside0.mk (Kd.R_mono (Kd.R_keep (IsS93.apart (show IsS93 w0 _ g s0_0 t419 from ni93_57 HI0.out) (nr_ HO413.out) (by decide)) hk (fun _ h => h.2)) (fun _ h => h.1)); replace HO418 := Aside0.mk (Kd.R_mono (Kd.R_keep (IsS93.apart (show IsS93 w0 _ g s0_0 t419 from ni93_57 HI0.out) (nr_ HO418.out) (by decide)) hk (fun _ h => h.2)) (fun _ h => h.1)); replace HK := Aside0.mk (KeepBut.trans (nk_ HK.out) hk (.inl rfl)); replace HB := Aside0.mk (hb); replace HI0 := Aside0.mk (hi); (try clear hb); (try clear hb2); (try clear hk); (try clear hi)))
   go_ret
   exact ⟨_, nw_, by (with_reducible repeat (first | apply Kd.R_alloc | apply Kd.R_drewN | apply Kd.R_drew)); exact Kd.R_mono HO418.out (fun _ hk => trivial), ni93_57 HI0.out, by repeat (first | (with_reducible first | exact HB.out | apply below_alloc | apply pw_below_drewN | apply below_drew1 | refine below_set ?_ (IsS93.ge HI0.out) | refine below_set ?_ GE404.out) | exact HB.out), nk_ HK.out⟩
  rw [if_pos c9] at H
  have c9b0 : (t420 == 0) = true := beq_iff_eq.mpr c9
  have c9b1 : (t420 != 0) = false := bne_eq_false_iff_eq.mpr c9
  clear c9
  replace H := Option.bind_eq_some_iff.mp H
  obtain ⟨⟨t422, t423⟩, A100, H⟩ := H
  replace H : (if t416.length < 17592186044416 then (some ((t416 ++ [wrap64 (t422 - 1)]), t423)) else (none)) = some (r1, r2) := H
  have A10 := Aside0.mk A100
  clear A100
  by_cases c11 : t416.length < 17592186044416
  rotate_left
  ·rw [if_neg c11] at H
   exact absurd H (by simp)
  rw [if_pos c11] at H
  have LMc11 := Aside0.mk c11
  clear c11
  obtain ⟨y424, hy424⟩ : ∃ y_ : List Int, y_ = (t416 ++ [wrap64 (t422 - 1)]) := ⟨_, rfl⟩
  replace H : (some (y424, t423)) = some (r1, r2) := by first | (rw [hy424]; with_reducible exact H) | (have H2_ := (Option.bind_some _ _).symm.trans H; rw [hy424]; with_reducible exact H2_) | (have H2_ := (Option.bind_some _ _).symm.trans H; with_reducible exact H2_) | with_reducible exact H | (rw [hy424]; exact H) | exact H
  have Ny424 := Aside0.mk hy424
  clear hy424
  simp only [Option.some.injEq, Prod.mk.injEq] at H
  obtain ⟨rfl, rfl⟩ := H
  go_enter Try.func57, Try.ntmps57
  try go_wp2_with (first | ((with_reducible refine gate_dst (N := 3) rfl ?_); refine bx_ 3 #[.int .i64 a1_0, .slice A1_1 l1_1.length c1_1] 25 ?_; intro gb404 hg w12 hbox hb; have BK404 := Aside0.mk (hbox); have GW404 := Aside0.mk (zk_ hg (nk_ HK.out)); have GE404 := Aside0.mk ((Nat.le_trans HW0.out (by rw [hg]; exact (keep_size (w := w) (g := g) (row := none) (nk_ HK.out)) : w.heap.size ≤ gb404) : w0.heap.size ≤ gb404)); have NB0_404 := Aside0.mk ((by rw [hg]; exact Nat.ne_of_lt (IsS93.lt (show IsS93 w0 _ g s0_0 s0_1 from ni93_57 HI0.out)) : g ≠ gb404)); have NB404_0 := Aside0.mk ((by rw [hg]; exact Nat.ne_of_gt (IsS93.lt (show IsS93 w0 _ g s0_0 s0_1 from ni93_57 HI0.out)) : gb404 ≠ g)); replace HI0 := Aside0.mk (IsS93.below (ni93_57 HI0.out) hb); replace HK := Aside0.mk (KeepBut.trans (nk_ HK.out) (KeepBut.of_below hb g none) (.inl rfl)); replace HB := Aside0.mk (below_step (ng93_57 HB.out) hb); clear hb hbox hg; have hnb13 := NB404_0.out; have hnc13 := NB0_404.out; obtain ⟨hcz14_0, hcz14_1, hfz14_0, hfz14_1⟩ := cz2_ BK404.out) | ((with_reducible refine gate_callee (f := 50) rfl ?_); refine gl_ (some 7) Try.func50 #[.agg #[.int .i64 a1_0, .slice A1_1 l1_1.length c1_1]] ?_; (with_reducible refine (spec_l1Ok.calls k a1_0 _ _ l1_1 true _ ?side1 ?side2 A3.out).mono ?_); (case side1 => exact Kd.C_foot_now HR1_1.out (nk_ HK.out)); (case side2 => exact HC1_1.out); rintro e w15 ⟨rfl, hb⟩; refine ⟨_, rfl, ?_⟩; replace HI0 := Aside0.mk (IsS93.below (ni93_57 HI0.out) hb); replace BK404 := kb_ BK404 hb; replace HK := Aside0.mk (KeepBut.trans (nk_ HK.out) (KeepBut.of_below hb g none) (.inl rfl)); replace HB := Aside0.mk (below_step (ng93_57 HB.out) hb); (try clear hb); (try clear hb2); (try clear hk); (try clear hi)))
  replace BK404 := Aside0.mk (blk_drew BK404.out)
  replace HI0 := Aside0.mk (IsS93.drew HI0.out)
  replace HK := Aside0.mk (keep_drew HK.out)
  replace HB := Aside0.mk (below_drew1 HB.out)
  refine start_ (n := 11) (S := fun w' => True) (ds := []) z57_0 (by kernel_rfl) rfl rfl trivial (fun hHeld => ?_); refine with_tabW spec_l30AnyWalk.tab3 spec_l30AnyWalk.bits3 (fun HT_ HW_ => ?_)
  generalize w15.drew = w16 at BK404 HI0 HK HB hHeld ⊢
  refine pu_ 0 10 z57_1 HT_.out ?_
  refine pu_ 2 12 z57_2 HT_.out ?_
  refine pu_ 3 13 z57_3 HT_.out ?_
  refine pu_ 6 16 z57_4 HT_.out ?_
  refine inv_at [1, 4, 5, 7, 8, 9, 10] (fun a0_ b a w' => ∃ (v412 : Value) (v417 : Value) (m10_ : Value), a = putSel a0_ b [(1, 11, .agg #[.int .i64 a1_0, .slice A1_1 l1_1.length c1_1]), (4, 14, .int .i64 a1_0), (5, 15, .int .i64 t409), (7, 17, v412), (8, 18, .int .i64 t414), (9, 19, v417), (10, 5, m10_)] ∧ (w'.heap[gb404]? = some (.cells #[.int .i64 a1_0, .slice A1_1 l1_1.length c1_1] 25 (0, 0))) ∧ (b 5 = false → IsS93 w0 w' g s0_0 s0_1) ∧ (KeepBut w w' g none) ∧ (Below w0.heap.size w0 w') ∧ (b 5 = true → b 8 = false → IsS93 w0 w' g s0_0 t410) ∧ (b 7 = true → Kd.R (Kd.int .i64) 3 w' w.heap.size (fun _ => True) v412 y411) ∧ (b 8 = true → b 9 = false → IsS93 w0 w' g s0_0 t415) ∧ (b 9 = true → Kd.R (Kd.int .i64) 3 w' w.heap.size (fun k_ => some k_ ≠ (v412 : Value).ownBlock) v417 t416) ∧ (b 9 = true → IsS93 w0 w' g s0_0 t419) ∧ (b 10 = true → (m10_ : Value) = v417)) HT_.out HW_.out (by kernel_rfl) (by kernel_rfl) ?_ ?_ ?_
  ·exact ⟨.bool false, .bool false, .bool false, by simp only [putSel, Bool.false_eq_true, if_false], BK404.out, fun _ => HI0.out, HK.out, HB.out, fun h_ => absurd h_ (by decide), fun h_ => absurd h_ (by decide), fun h_ => absurd h_ (by decide), fun h_ => absurd h_ (by decide), fun h_ => absurd h_ (by decide), fun h_ => absurd h_ (by decide)⟩
  ·skip
   clear BK404 HB HI0 HK
   refine steps_cons ?_ ?_
   ·rintro b a w' ⟨v412, v417, m10_, ha, Q_BK404, Q_HI0, Q_HK, Q_HB, Q_HI0_e5, Q_HO413, Q_HI0_e8, Q_HO418, Q_HI0_e9, Q_X10_⟩ hb_ hon hoff
    refine ⟨_, rfl, fun K hK => ?_⟩
    have e3 : a.tmps[3]? = some (.pointer (some ⟨gb404, 0, none⟩)) := by rw [ha]; exact (putSel_off rfl).trans rfl
    replace ha := Aside0.mk ha
    have BK404 := Aside0.mk Q_BK404
    have HK := Aside0.mk Q_HK
    have HB := Aside0.mk Q_HB
    have hc0_ : w'.cell? ⟨gb404, 0, none⟩ = some (.int .i64 a1_0) := ct_ BK404.out 0
    have hc1_ : w'.cell? ⟨gb404, 1, none⟩ = some (.slice A1_1 l1_1.length c1_1) := ct_ BK404.out 1
    refine value_ (w1 := w') (v := .agg #[.int .i64 a1_0, .slice A1_1 l1_1.length c1_1]) (by rfl) rfl ?_ ?_
    ·go_simp
     (try simp only [i64_w])
     try rfl
    refine hK.out _ _ ⟨v412, v417, m10_, (by rw [ha.out]; exact putSel_upk 0 hb_ rfl rfl rfl), Q_BK404, Q_HI0, Q_HK, Q_HB, Q_HI0_e5, Q_HO413, Q_HI0_e8, fun h0_ => absurd ((hoff 9 (by kernel_rfl)).symm.trans h0_) (by decide), fun h0_ => absurd ((hoff 9 (by kernel_rfl)).symm.trans h0_) (by decide), fun h0_ => absurd ((hoff 10 (by kernel_rfl)).symm.trans h0_) (by decide)⟩
   refine steps_cons ?_ ?_
   ·rintro b a w' ⟨v412, v417, m10_, ha, Q_BK404, Q_HI0, Q_HK, Q_HB, Q_HI0_e5, Q_HO413, Q_HI0_e8, Q_HO418, Q_HI0_e9, Q_X10_⟩ hb_ hon hoff
    refine ⟨_, rfl, fun K hK => ?_⟩
    have e13 : a.tmps[13]? = some (.pointer (some ⟨gb404, 0, none⟩)) := by rw [ha]; exact (putSel_off rfl).trans rfl
    replace ha := Aside0.mk ha
    have BK404 := Aside0.mk Q_BK404
    have HI0 := Aside0.mk (Q_HI0 (hoff 5 (by kernel_rfl)))
    have HK := Aside0.mk Q_HK
    have HB := Aside0.mk Q_HB
    have hc0_ : w'.cell? ⟨gb404, 0, none⟩ = some (.int .i64 a1_0) := ct_ BK404.out 0
    have hc1_ : w'.cell? ⟨gb404, 1, none⟩ = some (.slice A1_1 l1_1.length c1_1) := ct_ BK404.out 1
    refine value_ (w1 := w') (v := .int .i64 a1_0) (by rfl) rfl ?_ ?_
    ·go_simp
     (try simp only [i64_w])
     try rfl
    refine hK.out _ _ ⟨v412, v417, m10_, (by rw [ha.out]; exact putSel_upk 1 hb_ rfl rfl rfl), Q_BK404, Q_HI0, Q_HK, Q_HB, fun h0_ _ => absurd ((hoff 5 (by kernel_rfl)).symm.trans h0_) (by decide), Q_HO413, fun h0_ _ => absurd ((hoff 8 (by kernel_rfl)).symm.trans h0_) (by decide), fun h0_ => absurd ((hoff 9 (by kernel_rfl)).symm.trans h0_) (by decide), fun h0_ => absurd ((hoff 9 (by kernel_rfl)).symm.trans h0_) (by decide), fun h0_ => absurd ((hoff 10 (by kernel_rfl)).symm.trans h0_) (by decide)⟩
   refine steps_cons ?_ ?_
   ·rintro b a w' ⟨v412, v417, m10_, ha, Q_BK404, Q_HI0, Q_HK, Q_HB, Q_HI0_e5, Q_HO413, Q_HI0_e8, Q_HO418, Q_HI0_e9, Q_X10_⟩ hb_ hon hoff
    refine ⟨_, rfl, fun K hK => ?_⟩
    have e12 : a.tmps[12]? = some (.pointer (some ⟨g, 0, none⟩)) := by rw [ha]; exact (putSel_off rfl).trans rfl
    have e14 : a.tmps[14]? = some (.int .i64 a1_0) := by rw [ha]; exact putSel_on (e := (4, 14, .int .i64 a1_0)) 1 rfl rfl (hon 4 (by kernel_rfl)) rfl
    replace ha := Aside0.mk ha
    have BK404 := Aside0.mk Q_BK404
    have HI0 := Aside0.mk (Q_HI0 hb_)
    have HK := Aside0.mk Q_HK
    have HB := Aside0.mk Q_HB
    refine goes_ Try.func78 (by kernel_rfl) rfl #[.pointer (some ⟨g, 0, none⟩), .int .i64 a1_0] (by rfl) rfl rfl (by first | (simp only [List.map_toArray, List.map_cons, List.map_nil, Act.eval, Array.getD_eq_getD_getElem?, Option.getD_some, e12, e14]; done) | (simp only [List.map_toArray, List.map_cons, List.map_nil, Act.eval, Array.getD_eq_getD_getElem?, Option.getD_some, e12, e14]; rfl)) ?_
    with_reducible refine (spec_l30Rd_pick.calls k g s0_0 s0_1 a1_0 t409 t410 w0 _ ?side1 ?side2 A5.out).mono ?_
    (case side1 => repeat (first | (with_reducible first | exact HI0.out | apply IsS93.alloc | apply IsS93.drewN | apply IsS93.drew | apply IsS93.set_1 | refine IsS93.far ?_ NB0_404.out _) | exact HI0.out))
    (case side2 => exact (ng93_57 HB.out))
    rintro e w17 ⟨rfl, hi, hb, hk⟩
    refine ⟨_, rfl, ?_⟩
    have n0_ := Aside0.mk (KeepBut.blk hk (g' := gb404) (o := .cells #[.int .i64 a1_0, .slice A1_1 l1_1.length c1_1] 25 (0, 0)) (nb_ BK404.out) NB404_0.out (by simp))
    have n1_ := Aside0.mk (KeepBut.trans (nk_ HK.out) hk (.inl rfl))
    have n2_ := Aside0.mk (hb)
    have n3_ := Aside0.mk (hi)
    have z_HO413 := fun (h0_ : b 7 = true) => (show Kd.R (Kd.int .i64) 3 w17 w.heap.size (fun _ => True) v412 y411 from by first | exact (Kd.R_mono (Kd.R_keep (IsS93.apart (show IsS93 w0 _ g s0_0 s0_1 from ni93_57 HI0.out) (by (with_reducible repeat (first | apply Kd.R_alloc | apply Kd.R_drewN | apply Kd.R_drew)); exact (Q_HO413 h0_)) (by decide)) hk (fun _ h => h.2)) (fun _ h => h.1)) | exact Kd.R_mono (Kd.R_mono (Kd.R_keep (IsS93.apart (show IsS93 w0 _ g s0_0 s0_1 from ni93_57 HI0.out) (by (with_reducible repeat (first | apply Kd.R_alloc | apply Kd.R_drewN | apply Kd.R_drew)); exact (Q_HO413 h0_)) (by decide)) hk (fun _ h => h.2)) (fun _ h => h.1)) (fun _ h_ => by first | trivial | exact h_ | exact h_.1))
    clear BK404 HK HB HI0
    have BK404 := n0_
    have HK := n1_
    have HB := n2_
    have HI0 := n3_
    clear n0_ n1_ n2_ n3_
    (try clear hb)
    (try clear hb2)
    (try clear hk)
    (try clear hi)
    refine hK.out _ _ ⟨v412, v417, m10_, (by rw [ha.out]; exact putSel_upk 2 hb_ rfl rfl rfl), (nb_ BK404.out), fun h0_ => absurd ((up_self b 5).symm.trans h0_) (by decide), (nk_ HK.out), (ng93_57 HB.out), fun _ _ => (ni93_57 HI0.out), z_HO413, fun h0_ _ => absurd ((hoff 8 (by kernel_rfl)).symm.trans h0_) (by decide), fun h0_ => absurd ((hoff 9 (by kernel_rfl)).symm.trans h0_) (by decide), fun h0_ => absurd ((hoff 9 (by kernel_rfl)).symm.trans h0_) (by decide), fun h0_ => absurd ((hoff 10 (by kernel_rfl)).symm.trans h0_) (by decide)⟩
   refine steps_cons ?_ ?_
   ·rintro b a w' ⟨v412, v417, m10_, ha, Q_BK404, Q_HI0, Q_HK, Q_HB, Q_HI0_e5, Q_HO413, Q_HI0_e8, Q_HO418, Q_HI0_e9, Q_X10_⟩ hb_ hon hoff
    refine ⟨_, rfl, fun K hK => ?_⟩
    replace ha := Aside0.mk ha
    have BK404 := Aside0.mk Q_BK404
    have HK := Aside0.mk Q_HK
    have HB := Aside0.mk Q_HB
    refine ls_ 17 3 [3, 8, 21] [.int .i64 3, .int .i64 8, .int .i64 21] ?_
    intro v412 w17 ho18 hb hg_ hnew_
    clear hg_ hnew_
    (first | rw [← Ny411.out] at ho18 | (simp only [Int.reduceToNat] at ho18; rw [← Ny411.out] at ho18))
    have n0_ := Aside0.mk (Kd.R_lower ho18 (keep_size (w := w) (g := g) (row := none) (nk_ HK.out)))
    have n2_ := Aside0.mk (blk_below (g := gb404) (o := .cells #[.int .i64 a1_0, .slice A1_1 l1_1.length c1_1] 25 (0, 0)) (nb_ BK404.out) hb)
    have n3_ := Aside0.mk (KeepBut.trans (nk_ HK.out) (KeepBut.of_below hb g none) (.inl rfl))
    have n4_ := Aside0.mk (below_step (ne_ HB.out) hb)
    have z_HI0 := fun (h0_ : b 5 = false) => (show IsS93 w0 w17 g s0_0 s0_1 from by first | exact (IsS93.below (by repeat (first | (with_reducible first | exact (Q_HI0 h0_) | apply IsS93.alloc | apply IsS93.drewN | apply IsS93.drew | apply IsS93.set_1 | refine IsS93.far ?_ NB0_404.out _) | exact (Q_HI0 h0_))) hb))
    have z_HI0_e5 := fun (h0_ : b 5 = true) (h1_ : b 8 = false) => (show IsS93 w0 w17 g s0_0 t410 from by first | exact (IsS93.below (by repeat (first | (with_reducible first | exact (Q_HI0_e5 h0_ h1_) | apply IsS93.alloc | apply IsS93.drewN | apply IsS93.drew | apply IsS93.set_1 | refine IsS93.far ?_ NB0_404.out _) | exact (Q_HI0_e5 h0_ h1_))) hb))
    clear BK404 HK HB
    have HO413 := n0_
    have BK404 := n2_
    have HK := n3_
    have HB := n4_
    clear n0_ n2_ n3_ n4_ hb ho18
    refine hK.out _ _ ⟨v412, v417, m10_, (by rw [ha.out]; exact putSel_upk 3 hb_ rfl rfl rfl), (nb_ BK404.out), z_HI0, (nk_ HK.out), (ne_ HB.out), z_HI0_e5, fun _ => (nr_ HO413.out), fun h0_ _ => absurd ((hoff 8 (by kernel_rfl)).symm.trans h0_) (by decide), fun h0_ => absurd ((hoff 9 (by kernel_rfl)).symm.trans h0_) (by decide), fun h0_ => absurd ((hoff 9 (by kernel_rfl)).symm.trans h0_) (by decide), fun h0_ => absurd ((hoff 10 (by kernel_rfl)).symm.trans h0_) (by decide)⟩
   refine steps_cons ?_ ?_
   ·rintro b a w' ⟨v412, v417, m10_, ha, Q_BK404, Q_HI0, Q_HK, Q_HB, Q_HI0_e5, Q_HO413, Q_HI0_e8, Q_HO418, Q_HI0_e9, Q_X10_⟩ hb_ hon hoff
    refine ⟨_, rfl, fun K hK => ?_⟩
    have e16 : a.tmps[16]? = some (.pointer (some ⟨g, 0, none⟩)) := by rw [ha]; exact (putSel_off rfl).trans rfl
    have e17 : a.tmps[17]? = some (v412) := by rw [ha]; exact putSel_on (e := (7, 17, v412)) 3 rfl rfl (hon 7 (by kernel_rfl)) rfl
    replace ha := Aside0.mk ha
    have BK404 := Aside0.mk Q_BK404
    have HK := Aside0.mk Q_HK
    have HB := Aside0.mk Q_HB
    have HI0 := Aside0.mk (Q_HI0_e5 (hon 5 (by kernel_rfl)) hb_)
    have HO413 := Aside0.mk (Q_HO413 (hon 7 (by kernel_rfl)))
    obtain ⟨Ao21, co21, eo21⟩ := Kd.R_slice HO413.out
    (first | subst eo21 | (injection eo21 with f1_ f2_ f3_; have f4_ := f1_.symm; have f5_ := f3_.symm; clear f1_ f2_ f3_; subst f4_; subst f5_))
    refine goes_ Try.func79 (by kernel_rfl) rfl #[.pointer (some ⟨g, 0, none⟩), .slice Ao21 y411.length co21] (by rfl) rfl rfl (by first | (simp only [List.map_toArray, List.map_cons, List.map_nil, Act.eval, Array.getD_eq_getD_getElem?, Option.getD_some, e16, e17]; done) | (simp only [List.map_toArray, List.map_cons, List.map_nil, Act.eval, Array.getD_eq_getD_getElem?, Option.getD_some, e16, e17]; rfl)) ?_
    with_reducible refine (spec_l30Rd_one.calls k g s0_0 t410 _ _ y411 t414 t415 w0 _ ?side1 ?side2 ?side3 ?side4 ?side5 A6.out).mono ?_
    (case side1 => repeat (first | (with_reducible first | exact HI0.out | apply IsS93.alloc | apply IsS93.drewN | apply IsS93.drew | apply IsS93.set_1 | refine IsS93.far ?_ NB0_404.out _) | exact HI0.out))
    (case side2 => exact (ng93_57 HB.out))
    (case side3 => exact nc_ (Kd.R_reads' HO413.out).2.2)
    (case side4 => exact (Kd.R_reads' HO413.out).2.1)
    (case side5 => exact far_slice (IsS93.own_ne HI0.out HO413.out (by decide)))
    rintro e w22 ⟨rfl, hi, hb, hk⟩
    refine ⟨_, rfl, ?_⟩
    replace BK404 := kk_ BK404 hk NB404_0
    replace HO413 := Aside0.mk (Kd.R_mono (Kd.R_keep (IsS93.apart (show IsS93 w0 _ g s0_0 t410 from ni93_57 HI0.out) (nr_ HO413.out) (by decide)) hk (fun _ h => h.2)) (fun _ h => h.1))
    replace HK := Aside0.mk (KeepBut.trans (nk_ HK.out) hk (.inl rfl))
    replace HB := Aside0.mk (hb)
    replace HI0 := Aside0.mk (hi)
    (try clear hb)
    (try clear hb2)
    (try clear hk)
    (try clear hi)
    refine hK.out _ _ ⟨.slice Ao21 y411.length co21, v417, m10_, (by rw [ha.out]; exact putSel_upk 4 hb_ rfl rfl rfl), (nb_ BK404.out), fun h0_ => absurd ((hon 5 (by kernel_rfl)).symm.trans h0_) (by decide), (nk_ HK.out), (ng93_57 HB.out), fun _ h1_ => absurd ((up_self b 8).symm.trans h1_) (by decide), fun _ => (nr_ HO413.out), fun _ _ => (ni93_57 HI0.out), fun h0_ => absurd ((hoff 9 (by kernel_rfl)).symm.trans h0_) (by decide), fun h0_ => absurd ((hoff 9 (by kernel_rfl)).symm.trans h0_) (by decide), fun h0_ => absurd ((hoff 10 (by kernel_rfl)).symm.trans h0_) (by decide)⟩
   refine steps_cons ?_ ?_
   ·rintro b a w' ⟨v412, v417, m10_, ha, Q_BK404, Q_HI0, Q_HK, Q_HB, Q_HI0_e5, Q_HO413, Q_HI0_e8, Q_HO418, Q_HI0_e9, Q_X10_⟩ hb_ hon hoff
    refine ⟨_, rfl, fun K hK => ?_⟩
    have e10 : a.tmps[10]? = some (.pointer (some ⟨g, 0, none⟩)) := by rw [ha]; exact (putSel_off rfl).trans rfl
    have e11 : a.tmps[11]? = some (.agg #[.int .i64 a1_0, .slice A1_1 l1_1.length c1_1]) := by rw [ha]; exact putSel_on (e := (1, 11, .agg #[.int .i64 a1_0, .slice A1_1 l1_1.length c1_1])) 0 rfl rfl (hon 1 (by kernel_rfl)) rfl
    have e15 : a.tmps[15]? = some (.int .i64 t409) := by rw [ha]; exact putSel_on (e := (5, 15, .int .i64 t409)) 2 rfl rfl (hon 5 (by kernel_rfl)) rfl
    have e18 : a.tmps[18]? = some (.int .i64 t414) := by rw [ha]; exact putSel_on (e := (8, 18, .int .i64 t414)) 4 rfl rfl (hon 8 (by kernel_rfl)) rfl
    replace ha := Aside0.mk ha
    have BK404 := Aside0.mk Q_BK404
    have HK := Aside0.mk Q_HK
    have HB := Aside0.mk Q_HB
    have HO413 := Aside0.mk (Q_HO413 (hon 7 (by kernel_rfl)))
    have HI0 := Aside0.mk (Q_HI0_e8 (hon 8 (by kernel_rfl)) hb_)
    refine goes_ Try.func83 (by kernel_rfl) rfl #[.pointer (some ⟨g, 0, none⟩), .agg #[.int .i64 a1_0, .slice A1_1 l1_1.length c1_1], .int .i64 t409, .int .i64 t414] (by rfl) rfl rfl (by first | (simp only [List.map_toArray, List.map_cons, List.map_nil, Act.eval, Array.getD_eq_getD_getElem?, Option.getD_some, e10, e11, e15, e18]; done) | (simp only [List.map_toArray, List.map_cons, List.map_nil, Act.eval, Array.getD_eq_getD_getElem?, Option.getD_some, e10, e11, e15, e18]; rfl)) ?_
    with_reducible refine (spec_l30Walk.calls k g s0_0 t415 a1_0 _ _ l1_1 t409 t414 t416 t419 w0 _ ?side1 ?side2 ?side3 ?side4 A7.out).mono ?_
    (case side1 => repeat (first | (with_reducible first | exact HI0.out | apply IsS93.alloc | apply IsS93.drewN | apply IsS93.drew | apply IsS93.set_1 | refine IsS93.far ?_ NB0_404.out _) | exact HI0.out))
    (case side2 => exact (ng93_57 HB.out))
    (case side3 => exact Kd.C_foot_step HR1_1.out (nk_ HK.out))
    (case side4 => exact HC1_1.out)
    rintro e w23 ⟨v417, rfl, ho0, hi, hb, hk⟩
    refine ⟨_, rfl, ?_⟩
    replace BK404 := kk_ BK404 hk NB404_0
    have HO418 := Aside0.mk (Kd.R_lower (Kd.R_new' ho0 (Kd.R_lt (nr_ HO413.out))) (keep_size (w := w) (g := g) (row := none) (nk_ HK.out)))
    replace HO413 := Aside0.mk (Kd.R_mono (Kd.R_told (Kd.R_oldK (IsS93.apart (show IsS93 w0 _ g s0_0 t415 from ni93_57 HI0.out) (nr_ HO413.out) (by decide)) hk) (Kd.R_base ho0)) (fun _ h_ => h_.1))
    replace HK := Aside0.mk (KeepBut.trans (nk_ HK.out) hk (.inl rfl))
    replace HB := Aside0.mk (hb)
    replace HI0 := Aside0.mk (hi)
    (try clear hb)
    (try clear hb2)
    (try clear hk)
    (try clear hi)
    (try clear ho0)
    refine hK.out _ _ ⟨v412, v417, m10_, (by rw [ha.out]; exact putSel_upk 5 hb_ rfl rfl rfl), (nb_ BK404.out), fun h0_ => absurd ((hon 5 (by kernel_rfl)).symm.trans h0_) (by decide), (nk_ HK.out), (ng93_57 HB.out), fun _ h1_ => absurd ((hon 8 (by kernel_rfl)).symm.trans h1_) (by decide), fun _ => (by (with_reducible repeat (first | apply Kd.R_alloc | apply Kd.R_drewN | apply Kd.R_drew)); exact Kd.R_mono HO413.out (fun _ hk => by first | exact hk.2 | trivial | simp_all)), fun _ h1_ => absurd ((up_self b 9).symm.trans h1_) (by decide), fun _ => (by (with_reducible repeat (first | apply Kd.R_alloc | apply Kd.R_drewN | apply Kd.R_drew)); exact Kd.R_mono HO418.out (fun _ hk => by first | exact hk.2 | trivial | simp_all)), fun _ => (ni93_57 HI0.out), fun h0_ => absurd ((hoff 10 (by kernel_rfl)).symm.trans h0_) (by decide)⟩
   refine steps_cons ?_ ?_
   ·rintro b a w' ⟨v412, v417, m10_, ha, Q_BK404, Q_HI0, Q_HK, Q_HB, Q_HI0_e5, Q_HO413, Q_HI0_e8, Q_HO418, Q_HI0_e9, Q_X10_⟩ hb_ hon hoff
    refine ⟨_, rfl, fun K hK => ?_⟩
    have e19 : a.tmps[19]? = some (v417) := by rw [ha]; exact putSel_on (e := (9, 19, v417)) 5 rfl rfl (hon 9 (by kernel_rfl)) rfl
    replace ha := Aside0.mk ha
    have BK404 := Aside0.mk Q_BK404
    have HK := Aside0.mk Q_HK
    have HB := Aside0.mk Q_HB
    have HO413 := Aside0.mk (Q_HO413 (hon 7 (by kernel_rfl)))
    have HO418 := Aside0.mk (Q_HO418 (hon 9 (by kernel_rfl)))
    have HI0 := Aside0.mk (Q_HI0_e9 (hon 9 (by kernel_rfl)))
    refine value_ (w1 := w') (v := v417) (by rfl) rfl ?_ ?_
    ·go_simp
     (try simp only [i64_w])
     try rfl
    refine hK.out _ _ ⟨v412, v417, (v417), (by rw [ha.out]; exact putSel_upk 6 hb_ rfl rfl rfl), Q_BK404, fun h0_ => absurd ((hon 5 (by kernel_rfl)).symm.trans h0_) (by decide), Q_HK, Q_HB, fun _ h1_ => absurd ((hon 8 (by kernel_rfl)).symm.trans h1_) (by decide), Q_HO413, fun _ h1_ => absurd ((hon 9 (by kernel_rfl)).symm.trans h1_) (by decide), Q_HO418, Q_HI0_e9, fun _ => rfl⟩
   exact steps_nil
  rintro b a w23 hall ⟨v412, v417, m10_, ha, Q_BK404, Q_HI0, Q_HK, Q_HB, Q_HI0_e5, Q_HO413, Q_HI0_e8, Q_HO418, Q_HI0_e9, Q_X10_⟩
  clear BK404 HB HI0 HK
  have hb1_ := hall 1 (by kernel_rfl)
  have hb4_ := hall 4 (by kernel_rfl)
  have hb5_ := hall 5 (by kernel_rfl)
  have hb7_ := hall 7 (by kernel_rfl)
  have hb8_ := hall 8 (by kernel_rfl)
  have hb9_ := hall 9 (by kernel_rfl)
  have hb10_ := hall 10 (by kernel_rfl)
  subst ha
  obtain rfl := (Q_X10_ hb10_).symm
  simp only [putSel, hb1_, hb4_, hb5_, hb7_, hb8_, hb9_, hb10_, if_true, Act.put, List.setIfInBounds_toArray, List.set_cons_zero, List.set_cons_succ]
  have BK404 := Aside0.mk Q_BK404
  clear Q_BK404 Q_HI0
  have HK := Aside0.mk Q_HK
  clear Q_HK
  have HB := Aside0.mk Q_HB
  clear Q_HB Q_HI0_e5
  have HO413 := Aside0.mk (Q_HO413 hb7_)
  clear Q_HO413 Q_HI0_e8
  have HO418 := Aside0.mk (Q_HO418 hb9_)
  clear Q_HO418
  have HI0 := Aside0.mk (Q_HI0_e9 hb9_)
  clear Q_HI0_e9
  try replace HO413 := Aside0.mk (Go.Proofs.YtcfmejfmjjgoaaaX.Kd.R_apart_back (fun _ _ _ _ _ _ h_ => h_) HO413.out HO418.out (fun k_ hk => by first | exact hk | exact hk | simp_all))
  clear hall hb1_ hb4_ hb5_ hb7_ hb8_ hb9_ hb10_
  try go_wp2_with (first | ((with_reducible refine gate_callee (f := 78) rfl ?_); refine gl_ (some 21) Try.func78 #[.pointer (some ⟨g, 0, none⟩), .int .i64 10] ?_; (with_reducible refine (spec_l30Rd_pick.calls k g s0_0 t419 10 t420 t421 w0 _ ?side1 ?side2 A8.out).mono ?_); (case side1 => repeat (first | (with_reducible first | exact HI0.out | apply IsS93.alloc | apply IsS93.drewN | apply IsS93.drew | apply IsS93.set_1 | refine IsS93.far ?_ NB0_404.out _) | exact HI0.out)); (case side2 => exact (ng93_57 HB.out)); rintro e w24 ⟨rfl, hi, hb, hk⟩; refine ⟨_, rfl, ?_⟩; replace BK404 := kk_ BK404 hk NB404_0; replace HO413 := Aside0.mk (Kd.R_mono (Kd.R_keep (IsS93.apart (show IsS93 w0 _ g s0_0 t419 from ni93_57 HI0.out) (nr_ HO413.out) (by decide)) hk (fun _ h => h.2)) (fun _ h => h.1)); replace HO418 := Aside0.mk (Kd.R_mono (Kd.R_keep (IsS93.apart (show IsS93 w0 _ g s0_0 t419 from ni93_57 HI0.out) (nr_ HO418.out) (by decide)) hk (fun _ h => h.2)) (fun _ h => h.1)); replace HK := Aside0.mk (KeepBut.trans (nk_ HK.out) hk (.inl rfl)); replace HB := Aside0.mk (hb); replace HI0 := Aside0.mk (hi); (try clear hb); (try clear hb2); (try clear hk); (try clear hi)) | ((with_reducible refine gate_callee (f := 78) rfl ?_); refine gl_ (some 25) Try.func78 #[.pointer (some ⟨g, 0, none⟩), .int .i64 17] ?_; (with_reducible refine (spec_l30Rd_pick.calls k g s0_0 t421 17 t422 t423 w0 _ ?side1 ?side2 A10.out).mono ?_); (case side1 => repeat (first | (with_reducible first | exact HI0.out | apply IsS93.alloc | apply IsS93.drewN | apply IsS93.drew | apply IsS93.set_1 | refine IsS93.far ?_ NB0_404.out _) | exact HI0.out)); (case side2 => exact (ng93_57 HB.out)); rintro e w25 ⟨rfl, hi, hb, hk⟩; refine ⟨_, rfl, ?_⟩; replace BK404 := kk_ BK404 hk NB404_0; replace HO413 := Aside0.mk (Kd.R_mono (Kd.R_keep (IsS93.apart (show IsS93 w0 _ g s0_0 t421 from ni93_57 HI0.out) (nr_ HO413.out) (by decide)) hk (fun _ h => h.2)) (fun _ h => h.1)); replace HO418 := Aside0.mk (Kd.R_mono (Kd.R_keep (IsS93.apart (show IsS93 w0 _ g s0_0 t421 from ni93_57 HI0.out) (nr_ HO418.out) (by decide)) hk (fun _ h => h.2)) (fun _ h => h.1)); replace HK := Aside0.mk (KeepBut.trans (nk_ HK.out) hk (.inl rfl)); replace HB := Aside0.mk (hb); replace HI0 := Aside0.mk (hi); (try clear hb); (try clear hb2); (try clear hk); (try clear hi)) | ((with_reducible refine gate_builtin (b := .append) (xs := #[.tmp 23, .tmp 27]) rfl ?_); at_builtin; refine Kd.R_append (Kd.int .i64) w.heap.size rfl (.tmp 23) (.tmp 27) 46 3 (.int .i64 0) 8 rfl Try.underlying46 info3 rfl (by decide) (by omega) v417 t416 (wrap64 (t422 - 1)) [.int .i64 (wrap64 (t422 - 1))] (fun k_ => some k_ ≠ (v412 : Value).ownBlock) (fun _ => False) rfl rfl ?aP (fun _ hk => hk.elim) ?aF ?aO (Below.refl _ _) ?aS ?aL ?_; (case aP => exact rfl); (case aF => exact (fun k_ hk => Kd.fresh' (Kd.R_lt (nr_ HO413.out)) k_ hk)); (case aO => exact (nr_ HO418.out)); (case aS => exact (keep_size (w := w) (g := g) (row := none) (nk_ HK.out))); (case aL => have := LMc11.out; omega); intro v425 w26 ho hb hg hat; rw [← Ny424.out] at ho; have HO426 := Aside0.mk (ho); replace HI0 := Aside0.mk (IsS93.grown (show IsS93 w0 _ g s0_0 t423 from ni93_57 HI0.out) hg (IsS93.own_ne HI0.out HO418.out (by decide))); replace BK404 := Aside0.mk (blk_grown (g := gb404) (o := .cells #[.int .i64 a1_0, .slice A1_1 l1_1.length c1_1] 25 (0, 0)) (nb_ BK404.out) hg (Kd.R_ne HO418.out BK404.out (by decide))); replace HO413 := Aside0.mk (Kd.R_after (ok := (fun _ => True)) (by (with_reducible repeat (first | apply Kd.R_alloc | apply Kd.R_drewN | apply Kd.R_drew)); exact Kd.R_mono HO413.out (fun _ hk => by first | exact ⟨trivial, hk⟩ | trivial | simp_all)) hg hat); replace HB := Aside0.mk (below_weaken (ng93_57 HB.out) HL.out hb); replace HK := Aside0.mk (KeepBut.trans (nk_ HK.out) (KeepBut.of_grown hg g) (Kd.R_base2 HO418.out)); clear HO418; clear ho hb hg hat))
  go_ret
  exact ⟨_, nw_, by (with_reducible repeat (first | apply Kd.R_alloc | apply Kd.R_drewN | apply Kd.R_drew)); exact Kd.R_mono HO426.out (fun _ hk => trivial), ni93_57 HI0.out, by repeat (first | (with_reducible first | exact HB.out | apply below_alloc | apply pw_below_drewN | apply below_drew1 | refine below_set ?_ (IsS93.ge HI0.out) | refine below_set ?_ GE404.out) | exact HB.out), nk_ HK.out⟩
end Go.Proofs.Ytcfmejfmjjgoaaa.Print
