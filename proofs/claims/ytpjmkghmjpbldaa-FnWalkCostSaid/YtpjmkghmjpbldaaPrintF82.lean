-- Made by this session's own program (wip/patch_print.py, over the kit's print). Lean checks it.
import Derived.Test.YtpjmkghmjpbldaaPrint0
import Derived.Test.YtpjmkghmjpbldaaPrintF60
import Derived.Test.YtpjmkghmjpbldaaPrintF88
import Derived.Test.YtpjmkghmjpbldaaPrintF89
import Derived.Test.YtpjmkghmjpbldaaPrintF99
namespace Go.Proofs.Ytpjmkghmjpbldaa.Print
open Go.RowKit Go.Proofs.YtpjmkghmjpbldaaW.PrintWords Go.Proofs.YtpjmkghmjpbldaaW.PrintLast Go.Proofs.YtpjmkghmjpbldaaW.PrintMore Go.Proofs.YtpjmkghmjpbldaaX
attribute [local go_sem] max2_int min2_int max_two min_two max_three min_three max_four min_four   -- for this text's walks alone
set_option linter.unusedVariables false
set_option linter.unusedSimpArgs false

abbrev z82_0 : Array Bool := #[false, false, false, false, false, false, false, false, false, false, false]
abbrev z82_1 : Array Bool := #[true, false, false, false, false, false, false, false, false, false, false]
abbrev z82_2 : Array Bool := #[true, false, true, false, false, false, false, false, false, false, false]
abbrev z82_3 : Array Bool := #[true, false, true, true, false, false, false, false, false, false, false]
abbrev z82_4 : Array Bool := #[true, false, true, true, false, false, true, false, false, false, false]
theorem ng106_82 {B : Nat} {w W W' : World} (h : Below B w W) (e : Below B w W → Below B w W' := by intro h_; repeat (first | (with_reducible first | exact h_ | apply below_alloc | apply pw_below_drewN | apply below_drew1 | refine below_set ?_ (IsS106.ge (Aside0.out (by with_reducible assumption))) | refine below_set ?_ (Aside0.out (by with_reducible assumption))) | exact h_)) : Below B w W' := e h
theorem ni106_82 {p q : Prop} (h : p) (e : p → q := by intro h_; repeat (first | (with_reducible first | exact h_ | apply IsS106.alloc | apply IsS106.drewN | apply IsS106.drew | apply IsS106.set_1 | refine IsS106.far ?_ (Aside0.out (by with_reducible assumption)) _) | exact h_)) : q := e h
/-! ### spec_l30AnyWalk: function 82 -/
def spec_l30AnyWalk.f (k : Nat) (s0_0 : List Int) (s0_1 : Int) (a1_0 : Int) (l1_1 : List (S37)) : Option (List Int × Int) := (spec_l1Ok.f k a1_0 l1_1).bind fun t581 => (if t581 = true then ((spec_l30Rd_pick.f k s0_0 s0_1 a1_0).bind fun bt585 => ((spec_l30Rd_one.f k s0_0 bt585.2 (([3, 8, 21] : List Int))).bind fun bt590 => ((spec_l30Walk.f k s0_0 bt590.2 a1_0 l1_1 bt585.1 bt590.1).bind fun bt592 => ((spec_l30Rd_pick.f k s0_0 bt592.2 10).bind fun bt596 => (if bt596.1 = 0 then ((spec_l30Rd_pick.f k s0_0 bt596.2 17).bind fun bt598 => (if bt592.1.length < 17592186044416 then (some ((bt592.1 ++ [wrap64 (bt598.1 - 1)]), bt598.2)) else (none))) else (some (bt592.1, bt596.2))))))) else (some ((([0] : List Int)), s0_1)))
theorem spec_l30AnyWalk.mono : ∀ a0 a1 a2 a3 k, LeO (spec_l30AnyWalk.f k a0 a1 a2 a3) (spec_l30AnyWalk.f (k + 1) a0 a1 a2 a3) := by
  intro a0 a1 a2 a3 k
  unfold spec_l30AnyWalk.f
  repeat' first
      | (with_reducible exact spec_l1Ok.mono _ _ _)
      | (with_reducible exact spec_l30Rd_one.mono _ _ _ _)
      | (with_reducible exact spec_l30Rd_pick.mono _ _ _ _)
      | (with_reducible exact spec_l30Walk.mono _ _ _ _ _ _ _)
      | (with_reducible exact LeO.refl _)
      | (with_reducible exact LeO.none _)
      | (with_reducible refine LeO.ite ?_ ?_)
      | (with_reducible refine LeO.bind ?_ (fun _ => ?_))
      | exact spec_l1Ok.mono _ _ _
      | exact spec_l30Rd_one.mono _ _ _ _
      | exact spec_l30Rd_pick.mono _ _ _ _
      | exact spec_l30Walk.mono _ _ _ _ _ _ _
      | exact LeO.none _
      | refine LeO.ite ?_ ?_
      | refine LeO.bind ?_ (fun _ => ?_)
def spec_l30AnyWalk.T3 : Bool × List (List Nat × List Nat) := (true, [([], []), ([], []), ([], []), ([], []), ([3], [3]), ([2, 4], [2, 4]), ([], []), ([], []), ([6, 7, 5], [6, 7]), ([0, 1, 5, 8, 8], [0, 1, 5, 8]), ([9, 9, 0, 1, 2, 3, 4, 5, 6, 7, 8, 9], [9])])
def spec_l30AnyWalk.B3 : List Nat := [0, 0, 0, 0, 8, 28, 0, 0, 252, 511, 1023]
theorem spec_l30AnyWalk.tab3 : rtab .any (opsOf Try.f82 3) = spec_l30AnyWalk.T3 := by kernel_rfl
theorem spec_l30AnyWalk.bits3 : waitsOk spec_l30AnyWalk.T3.2 spec_l30AnyWalk.B3 = true := by kernel_rfl
set_option maxHeartbeats 8000000 in
set_option maxRecDepth 100000 in
theorem spec_l30AnyWalk.calls (k : Nat) (g : Nat) (s0_0 : List Int) (s0_1 : Int) (a1_0 : Int) (A1_1 : Option Addr) (c1_1 : Nat) (l1_1 : List (S37)) (r1 : List Int) (r2 : Int) (w0 w : World) (hI : IsS106 w0 w g s0_0 s0_1) (hB : Below w0.heap.size w0 w) (hr1_1 : ∀ W_, KeepBut w W_ g none → Kd.C k37 W_ A1_1 l1_1.length l1_1) (hc1_1 : l1_1.length ≤ c1_1) (h : spec_l30AnyWalk.f k s0_0 s0_1 a1_0 l1_1 = some (r1, r2)) :
    Calls Try.prog 82 #[.pointer (some ⟨g, 0, none⟩), .agg #[.int .i64 a1_0, .slice A1_1 l1_1.length c1_1]] w fun e w' => ∃ v0_ : Value, e = .returned (v0_) ∧ Kd.R (Kd.int .i64) 3 w' w.heap.size (fun _ => True) v0_ r1 ∧ IsS106 w0 w' g s0_0 r2 ∧ Below w0.heap.size w0 w' ∧ KeepBut w w' g none := by
  have hu29 := Try.underlying29
  have HR1_1 := Aside0.mk hr1_1
  have HC1_1 := Aside0.mk hc1_1
  clear hr1_1 hc1_1
  have HI0 := Aside0.mk hI
  have HK := Aside0.mk (KeepBut.refl w g none)
  have HL := Aside0.mk hB.size
  clear hI
  have HW0 := Aside0.mk hB.size
  have HB := Aside0.mk hB
  clear hB
  have H : ((spec_l1Ok.f k a1_0 l1_1).bind fun t581 => (if t581 = true then ((spec_l30Rd_pick.f k s0_0 s0_1 a1_0).bind fun bt585 => ((spec_l30Rd_one.f k s0_0 bt585.2 (([3, 8, 21] : List Int))).bind fun bt590 => ((spec_l30Walk.f k s0_0 bt590.2 a1_0 l1_1 bt585.1 bt590.1).bind fun bt592 => ((spec_l30Rd_pick.f k s0_0 bt592.2 10).bind fun bt596 => (if bt596.1 = 0 then ((spec_l30Rd_pick.f k s0_0 bt596.2 17).bind fun bt598 => (if bt592.1.length < 17592186044416 then (some ((bt592.1 ++ [wrap64 (bt598.1 - 1)]), bt598.2)) else (none))) else (some (bt592.1, bt596.2))))))) else (some ((([0] : List Int)), s0_1)))) = some (r1, r2) := h
  clear h
  replace H := Option.bind_eq_some_iff.mp H
  obtain ⟨t581, A30, H⟩ := H
  replace H : (if t581 = true then ((spec_l30Rd_pick.f k s0_0 s0_1 a1_0).bind fun bt585 => ((spec_l30Rd_one.f k s0_0 bt585.2 (([3, 8, 21] : List Int))).bind fun bt590 => ((spec_l30Walk.f k s0_0 bt590.2 a1_0 l1_1 bt585.1 bt590.1).bind fun bt592 => ((spec_l30Rd_pick.f k s0_0 bt592.2 10).bind fun bt596 => (if bt596.1 = 0 then ((spec_l30Rd_pick.f k s0_0 bt596.2 17).bind fun bt598 => (if bt592.1.length < 17592186044416 then (some ((bt592.1 ++ [wrap64 (bt598.1 - 1)]), bt598.2)) else (none))) else (some (bt592.1, bt596.2))))))) else (some ((([0] : List Int)), s0_1))) = some (r1, r2) := H
  have A3 := Aside0.mk A30
  clear A30
  by_cases c4 : t581 = true
  ·subst c4
   have H1 : ((spec_l30Rd_pick.f k s0_0 s0_1 a1_0).bind fun bt585 => ((spec_l30Rd_one.f k s0_0 bt585.2 (([3, 8, 21] : List Int))).bind fun bt590 => ((spec_l30Walk.f k s0_0 bt590.2 a1_0 l1_1 bt585.1 bt590.1).bind fun bt592 => ((spec_l30Rd_pick.f k s0_0 bt592.2 10).bind fun bt596 => (if bt596.1 = 0 then ((spec_l30Rd_pick.f k s0_0 bt596.2 17).bind fun bt598 => (if bt592.1.length < 17592186044416 then (some ((bt592.1 ++ [wrap64 (bt598.1 - 1)]), bt598.2)) else (none))) else (some (bt592.1, bt596.2))))))) = some (r1, r2) := by rw [if_pos rfl] at H; exact H
   clear H
   have H := H1
   clear H1
   replace H := Option.bind_eq_some_iff.mp H
   obtain ⟨⟨t585, t586⟩, A50, H⟩ := H
   replace H : ((spec_l30Rd_one.f k s0_0 t586 (([3, 8, 21] : List Int))).bind fun bt590 => ((spec_l30Walk.f k s0_0 bt590.2 a1_0 l1_1 t585 bt590.1).bind fun bt592 => ((spec_l30Rd_pick.f k s0_0 bt592.2 10).bind fun bt596 => (if bt596.1 = 0 then ((spec_l30Rd_pick.f k s0_0 bt596.2 17).bind fun bt598 => (if bt592.1.length < 17592186044416 then (some ((bt592.1 ++ [wrap64 (bt598.1 - 1)]), bt598.2)) else (none))) else (some (bt592.1, bt596.2)))))) = some (r1, r2) := H
   have A5 := Aside0.mk A50
   clear A50
   obtain ⟨y587, hy587⟩ : ∃ y_ : List Int, y_ = (([3, 8, 21] : List Int)) := ⟨_, rfl⟩
   replace H : ((spec_l30Rd_one.f k s0_0 t586 y587).bind fun bt590 => ((spec_l30Walk.f k s0_0 bt590.2 a1_0 l1_1 t585 bt590.1).bind fun bt592 => ((spec_l30Rd_pick.f k s0_0 bt592.2 10).bind fun bt596 => (if bt596.1 = 0 then ((spec_l30Rd_pick.f k s0_0 bt596.2 17).bind fun bt598 => (if bt592.1.length < 17592186044416 then (some ((bt592.1 ++ [wrap64 (bt598.1 - 1)]), bt598.2)) else (none))) else (some (bt592.1, bt596.2)))))) = some (r1, r2) := by first | (rw [hy587]; with_reducible exact H) | (have H2_ := (Option.bind_some _ _).symm.trans H; rw [hy587]; with_reducible exact H2_) | (have H2_ := (Option.bind_some _ _).symm.trans H; with_reducible exact H2_) | with_reducible exact H | (rw [hy587]; exact H) | exact H
   have Ny587 := Aside0.mk hy587
   clear hy587
   replace H := Option.bind_eq_some_iff.mp H
   obtain ⟨⟨t590, t591⟩, A60, H⟩ := H
   replace H : ((spec_l30Walk.f k s0_0 t591 a1_0 l1_1 t585 t590).bind fun bt592 => ((spec_l30Rd_pick.f k s0_0 bt592.2 10).bind fun bt596 => (if bt596.1 = 0 then ((spec_l30Rd_pick.f k s0_0 bt596.2 17).bind fun bt598 => (if bt592.1.length < 17592186044416 then (some ((bt592.1 ++ [wrap64 (bt598.1 - 1)]), bt598.2)) else (none))) else (some (bt592.1, bt596.2))))) = some (r1, r2) := H
   have A6 := Aside0.mk A60
   clear A60
   replace H := Option.bind_eq_some_iff.mp H
   obtain ⟨⟨t592, t595⟩, A70, H⟩ := H
   replace H : ((spec_l30Rd_pick.f k s0_0 t595 10).bind fun bt596 => (if bt596.1 = 0 then ((spec_l30Rd_pick.f k s0_0 bt596.2 17).bind fun bt598 => (if t592.length < 17592186044416 then (some ((t592 ++ [wrap64 (bt598.1 - 1)]), bt598.2)) else (none))) else (some (t592, bt596.2)))) = some (r1, r2) := H
   have A7 := Aside0.mk A70
   clear A70
   replace H := Option.bind_eq_some_iff.mp H
   obtain ⟨⟨t596, t597⟩, A80, H⟩ := H
   replace H : (if t596 = 0 then ((spec_l30Rd_pick.f k s0_0 t597 17).bind fun bt598 => (if t592.length < 17592186044416 then (some ((t592 ++ [wrap64 (bt598.1 - 1)]), bt598.2)) else (none))) else (some (t592, t597))) = some (r1, r2) := H
   have A8 := Aside0.mk A80
   clear A80
   by_cases c9 : t596 = 0
   ·rw [if_pos c9] at H
    have c9b0 : (t596 == 0) = true := beq_iff_eq.mpr c9
    have c9b1 : (t596 != 0) = false := bne_eq_false_iff_eq.mpr c9
    clear c9
    replace H := Option.bind_eq_some_iff.mp H
    obtain ⟨⟨t598, t599⟩, A100, H⟩ := H
    replace H : (if t592.length < 17592186044416 then (some ((t592 ++ [wrap64 (t598 - 1)]), t599)) else (none)) = some (r1, r2) := H
    have A10 := Aside0.mk A100
    clear A100
    by_cases c11 : t592.length < 17592186044416
    ·rw [if_pos c11] at H
     have LMc11 := Aside0.mk c11
     clear c11
     obtain ⟨y600, hy600⟩ : ∃ y_ : List Int, y_ = (t592 ++ [wrap64 (t598 - 1)]) := ⟨_, rfl⟩
     replace H : (some (y600, t599)) = some (r1, r2) := by first | (rw [hy600]; with_reducible exact H) | (have H2_ := (Option.bind_some _ _).symm.trans H; rw [hy600]; with_reducible exact H2_) | (have H2_ := (Option.bind_some _ _).symm.trans H; with_reducible exact H2_) | with_reducible exact H | (rw [hy600]; exact H) | exact H
     have Ny600 := Aside0.mk hy600
     clear hy600
     simp only [Option.some.injEq, Prod.mk.injEq] at H
     obtain ⟨rfl, rfl⟩ := H
     go_enter Try.func82, Try.ntmps82
     try go_wp2_with (first | ((with_reducible refine gate_dst (N := 3) rfl ?_); refine box_event ?hg (N := 3) ?hd (cs := #[.int .i64 a1_0, .slice A1_1 l1_1.length c1_1]) (t := 29) ?hr ?_; (case hd => rfl); (case hg => rfl); (case hr => first | (go_simp; done) | (go_simp; rfl)); intro gb580 hg w12 hbox hb; have n0_ := Aside0.mk (IsS106.below (ni106_82 HI0.out) hb); have n1_ := Aside0.mk (KeepBut.trans (nk_ HK.out) (KeepBut.of_below hb g none) (.inl rfl)); have n2_ := Aside0.mk (below_step (ng106_82 HB.out) hb); have n3_ := Aside0.mk (hbox); have n4_ := Aside0.mk ((by rw [hg]; exact (keep_size (w := w) (g := g) (row := none) (nk_ HK.out)) : w.heap.size ≤ gb580)); have n5_ := Aside0.mk ((Nat.le_trans HW0.out (by rw [hg]; exact (keep_size (w := w) (g := g) (row := none) (nk_ HK.out)) : w.heap.size ≤ gb580) : w0.heap.size ≤ gb580)); have n6_ := Aside0.mk ((by rw [hg]; exact Nat.ne_of_lt (IsS106.lt (show IsS106 w0 _ g s0_0 s0_1 from ni106_82 HI0.out)) : g ≠ gb580)); have n7_ := Aside0.mk ((by rw [hg]; exact Nat.ne_of_gt (IsS106.lt (show IsS106 w0 _ g s0_0 s0_1 from ni106_82 HI0.out)) : gb580 ≠ g)); clear HI0; clear HK; clear HB; have HI0 := n0_; have HK := n1_; have HB := n2_; have BK580 := n3_; have GW580 := n4_; have GE580 := n5_; have NB0_580 := n6_; have NB580_0 := n7_; clear n0_ n1_ n2_ n3_ n4_ n5_ n6_ n7_; clear hb hbox hg; have hnb13 := NB580_0.out; have hnc13 := NB0_580.out; have hcz14_0 : w12.cell? ⟨gb580, 0, none⟩ = some (.int .i64 a1_0) := (blk_cell BK580.out 0).trans rfl; have hcz14_1 : w12.cell? ⟨gb580, 1, none⟩ = some (.slice A1_1 l1_1.length c1_1) := (blk_cell BK580.out 1).trans rfl; have hfz14_0 := blk_frozen BK580.out 0; have hfz14_1 := blk_frozen BK580.out 1) | ((with_reducible refine gate_callee (f := 60) rfl ?_); refine goesL_ (some 7) rfl rfl Try.func60 (by kernel_rfl) rfl #[.agg #[.int .i64 a1_0, .slice A1_1 l1_1.length c1_1]] rfl na_ ?_; (with_reducible refine (spec_l1Ok.calls k a1_0 _ _ l1_1 true _ ?side1 ?side2 A3.out).mono ?_); (case side1 => exact Kd.C_foot_now HR1_1.out (nk_ HK.out)); (case side2 => exact HC1_1.out); rintro e w15 ⟨rfl, hb⟩; refine ⟨_, rfl, ?_⟩; have n0_ := Aside0.mk (IsS106.below (ni106_82 HI0.out) hb); have n1_ := Aside0.mk (blk_below (g := gb580) (o := .cells #[.int .i64 a1_0, .slice A1_1 l1_1.length c1_1] 29 (0, 0)) (nb_ BK580.out) hb); have n2_ := Aside0.mk (KeepBut.trans (nk_ HK.out) (KeepBut.of_below hb g none) (.inl rfl)); have n3_ := Aside0.mk (below_step (ng106_82 HB.out) hb); clear HI0; clear BK580; clear HK; clear HB; have HI0 := n0_; have BK580 := n1_; have HK := n2_; have HB := n3_; clear n0_ n1_ n2_ n3_; (try clear hb); (try clear hb2); (try clear hk); (try clear hi)))
     have n0_ := Aside0.mk (blk_drew BK580.out)
     have n1_ := Aside0.mk (IsS106.drew HI0.out)
     have n2_ := Aside0.mk (keep_drew HK.out)
     have n3_ := Aside0.mk (below_drew1 HB.out)
     clear BK580
     clear HI0
     clear HK
     clear HB
     have BK580 := n0_
     have HI0 := n1_
     have HK := n2_
     have HB := n3_
     clear n0_ n1_ n2_ n3_
     refine start_ (n := 11) (S := fun w' => True) (ds := []) z82_0 (by kernel_rfl) rfl rfl trivial (fun hHeld => ?_); refine with_tabW spec_l30AnyWalk.tab3 spec_l30AnyWalk.bits3 (fun HT_ HW_ => ?_)
     generalize w15.drew = w16 at BK580 HI0 HK HB hHeld ⊢
     refine pu_ 0 10 z82_1 HT_.out ?_
     refine pu_ 2 12 z82_2 HT_.out ?_
     refine pu_ 3 13 z82_3 HT_.out ?_
     refine pu_ 6 16 z82_4 HT_.out ?_
     refine inv_at [1, 4, 5, 7, 8, 9, 10] (fun a0_ b a w' => ∃ (v588 : Value) (v593 : Value) (m10_ : Value), a = putSel a0_ b [(1, 11, .agg #[.int .i64 a1_0, .slice A1_1 l1_1.length c1_1]), (4, 14, .int .i64 a1_0), (5, 15, .int .i64 t585), (7, 17, v588), (8, 18, .int .i64 t590), (9, 19, v593), (10, 5, m10_)] ∧ (w'.heap[gb580]? = some (.cells #[.int .i64 a1_0, .slice A1_1 l1_1.length c1_1] 29 (0, 0))) ∧ (b 5 = false → IsS106 w0 w' g s0_0 s0_1) ∧ (KeepBut w w' g none) ∧ (Below w0.heap.size w0 w') ∧ (b 5 = true → b 8 = false → IsS106 w0 w' g s0_0 t586) ∧ (b 7 = true → Kd.R (Kd.int .i64) 3 w' w.heap.size (fun _ => True) v588 y587) ∧ (b 8 = true → b 9 = false → IsS106 w0 w' g s0_0 t591) ∧ (b 9 = true → Kd.R (Kd.int .i64) 3 w' w.heap.size (fun k_ => some k_ ≠ (v588 : Value).ownBlock) v593 t592) ∧ (b 9 = true → IsS106 w0 w' g s0_0 t595) ∧ (b 10 = true → (m10_ : Value) = v593)) HT_.out HW_.out (by kernel_rfl) (by kernel_rfl) ?_ ?_ ?_
     ·exact ⟨.bool false, .bool false, .bool false, by simp only [putSel, Bool.false_eq_true, if_false], BK580.out, fun _ => HI0.out, HK.out, HB.out, fun h_ => absurd h_ (by decide), fun h_ => absurd h_ (by decide), fun h_ => absurd h_ (by decide), fun h_ => absurd h_ (by decide), fun h_ => absurd h_ (by decide), fun h_ => absurd h_ (by decide)⟩
     ·skip
      clear BK580 HB HI0 HK
      refine steps_cons ?_ ?_
      ·rintro b a w' ⟨v588, v593, m10_, ha, Q_BK580, Q_HI0, Q_HK, Q_HB, Q_HI0_e5, Q_HO589, Q_HI0_e8, Q_HO594, Q_HI0_e9, Q_X10_⟩ hb_ hon hoff
       refine ⟨_, rfl, fun K hK => ?_⟩
       have e3 : a.tmps[3]? = some (.pointer (some ⟨gb580, 0, none⟩)) := by rw [ha]; exact (putSel_off rfl).trans rfl
       replace ha := Aside0.mk ha
       have BK580 := Aside0.mk Q_BK580
       have HK := Aside0.mk Q_HK
       have HB := Aside0.mk Q_HB
       have hc0_ : w'.cell? ⟨gb580, 0, none⟩ = some (.int .i64 a1_0) := (blk_cell BK580.out 0).trans rfl
       have hc1_ : w'.cell? ⟨gb580, 1, none⟩ = some (.slice A1_1 l1_1.length c1_1) := (blk_cell BK580.out 1).trans rfl
       refine value_ (w1 := w') (v := .agg #[.int .i64 a1_0, .slice A1_1 l1_1.length c1_1]) (by rfl) rfl ?_ ?_
       ·go_simp
        (try simp only [i64_w])
        try rfl
       refine hK.out _ _ ⟨v588, v593, m10_, (by rw [ha.out]; exact putSel_upk 0 hb_ rfl rfl rfl), Q_BK580, Q_HI0, Q_HK, Q_HB, Q_HI0_e5, Q_HO589, Q_HI0_e8, fun h0_ => absurd ((hoff 9 (by kernel_rfl)).symm.trans h0_) (by decide), fun h0_ => absurd ((hoff 9 (by kernel_rfl)).symm.trans h0_) (by decide), fun h0_ => absurd ((hoff 10 (by kernel_rfl)).symm.trans h0_) (by decide)⟩
      refine steps_cons ?_ ?_
      ·rintro b a w' ⟨v588, v593, m10_, ha, Q_BK580, Q_HI0, Q_HK, Q_HB, Q_HI0_e5, Q_HO589, Q_HI0_e8, Q_HO594, Q_HI0_e9, Q_X10_⟩ hb_ hon hoff
       refine ⟨_, rfl, fun K hK => ?_⟩
       have e13 : a.tmps[13]? = some (.pointer (some ⟨gb580, 0, none⟩)) := by rw [ha]; exact (putSel_off rfl).trans rfl
       replace ha := Aside0.mk ha
       have BK580 := Aside0.mk Q_BK580
       have HI0 := Aside0.mk (Q_HI0 (hoff 5 (by kernel_rfl)))
       have HK := Aside0.mk Q_HK
       have HB := Aside0.mk Q_HB
       have hc0_ : w'.cell? ⟨gb580, 0, none⟩ = some (.int .i64 a1_0) := (blk_cell BK580.out 0).trans rfl
       have hc1_ : w'.cell? ⟨gb580, 1, none⟩ = some (.slice A1_1 l1_1.length c1_1) := (blk_cell BK580.out 1).trans rfl
       refine value_ (w1 := w') (v := .int .i64 a1_0) (by rfl) rfl ?_ ?_
       ·go_simp
        (try simp only [i64_w])
        try rfl
       refine hK.out _ _ ⟨v588, v593, m10_, (by rw [ha.out]; exact putSel_upk 1 hb_ rfl rfl rfl), Q_BK580, Q_HI0, Q_HK, Q_HB, fun h0_ _ => absurd ((hoff 5 (by kernel_rfl)).symm.trans h0_) (by decide), Q_HO589, fun h0_ _ => absurd ((hoff 8 (by kernel_rfl)).symm.trans h0_) (by decide), fun h0_ => absurd ((hoff 9 (by kernel_rfl)).symm.trans h0_) (by decide), fun h0_ => absurd ((hoff 9 (by kernel_rfl)).symm.trans h0_) (by decide), fun h0_ => absurd ((hoff 10 (by kernel_rfl)).symm.trans h0_) (by decide)⟩
      refine steps_cons ?_ ?_
      ·rintro b a w' ⟨v588, v593, m10_, ha, Q_BK580, Q_HI0, Q_HK, Q_HB, Q_HI0_e5, Q_HO589, Q_HI0_e8, Q_HO594, Q_HI0_e9, Q_X10_⟩ hb_ hon hoff
       refine ⟨_, rfl, fun K hK => ?_⟩
       have e12 : a.tmps[12]? = some (.pointer (some ⟨g, 0, none⟩)) := by rw [ha]; exact (putSel_off rfl).trans rfl
       have e14 : a.tmps[14]? = some (.int .i64 a1_0) := by rw [ha]; exact putSel_on (e := (4, 14, .int .i64 a1_0)) 1 rfl rfl (hon 4 (by kernel_rfl)) rfl
       replace ha := Aside0.mk ha
       have BK580 := Aside0.mk Q_BK580
       have HI0 := Aside0.mk (Q_HI0 hb_)
       have HK := Aside0.mk Q_HK
       have HB := Aside0.mk Q_HB
       refine goes_ Try.func88 (by kernel_rfl) rfl #[.pointer (some ⟨g, 0, none⟩), .int .i64 a1_0] (by rfl) rfl rfl (by first | (simp only [List.map_toArray, List.map_cons, List.map_nil, Act.eval, Array.getD_eq_getD_getElem?, Option.getD_some, e12, e14]; done) | (simp only [List.map_toArray, List.map_cons, List.map_nil, Act.eval, Array.getD_eq_getD_getElem?, Option.getD_some, e12, e14]; rfl)) ?_
       with_reducible refine (spec_l30Rd_pick.calls k g s0_0 s0_1 a1_0 t585 t586 w0 _ ?side1 ?side2 A5.out).mono ?_
       (case side1 => repeat (first | (with_reducible first | exact HI0.out | apply IsS106.alloc | apply IsS106.drewN | apply IsS106.drew | apply IsS106.set_1 | refine IsS106.far ?_ NB0_580.out _) | exact HI0.out))
       (case side2 => repeat (first | (with_reducible first | exact HB.out | apply below_alloc | apply pw_below_drewN | apply below_drew1 | refine below_set ?_ (IsS106.ge HI0.out) | refine below_set ?_ GE580.out) | exact HB.out))
       rintro e w17 ⟨rfl, hi, hb, hk⟩
       refine ⟨_, rfl, ?_⟩
       have n0_ := Aside0.mk (KeepBut.blk hk (g' := gb580) (o := .cells #[.int .i64 a1_0, .slice A1_1 l1_1.length c1_1] 29 (0, 0)) (nb_ BK580.out) NB580_0.out (by simp))
       have n1_ := Aside0.mk (KeepBut.trans (nk_ HK.out) hk (.inl rfl))
       have n2_ := Aside0.mk (hb)
       have n3_ := Aside0.mk (hi)
       have z_HO589 := fun (h0_ : b 7 = true) => (show Kd.R (Kd.int .i64) 3 w17 w.heap.size (fun _ => True) v588 y587 from by first | exact (Kd.R_mono (Kd.R_keep (IsS106.apart (show IsS106 w0 _ g s0_0 s0_1 from ni106_82 HI0.out) (by (with_reducible repeat (first | apply Kd.R_alloc | apply Kd.R_drewN | apply Kd.R_drew)); exact (Q_HO589 h0_)) (by decide)) hk (fun _ h => h.2)) (fun _ h => h.1)) | exact Kd.R_mono (Kd.R_mono (Kd.R_keep (IsS106.apart (show IsS106 w0 _ g s0_0 s0_1 from ni106_82 HI0.out) (by (with_reducible repeat (first | apply Kd.R_alloc | apply Kd.R_drewN | apply Kd.R_drew)); exact (Q_HO589 h0_)) (by decide)) hk (fun _ h => h.2)) (fun _ h => h.1)) (fun _ h_ => by first | trivial | exact h_ | exact h_.1))
       clear BK580
       clear HK
       clear HB
       clear HI0
       have BK580 := n0_
       have HK := n1_
       have HB := n2_
       have HI0 := n3_
       clear n0_ n1_ n2_ n3_
       (try clear hb)
       (try clear hb2)
       (try clear hk)
       (try clear hi)
       refine hK.out _ _ ⟨v588, v593, m10_, (by rw [ha.out]; exact putSel_upk 2 hb_ rfl rfl rfl), (nb_ BK580.out), fun h0_ => absurd ((up_self b 5).symm.trans h0_) (by decide), (nk_ HK.out), (ng106_82 HB.out), fun _ _ => (ni106_82 HI0.out), z_HO589, fun h0_ _ => absurd ((hoff 8 (by kernel_rfl)).symm.trans h0_) (by decide), fun h0_ => absurd ((hoff 9 (by kernel_rfl)).symm.trans h0_) (by decide), fun h0_ => absurd ((hoff 9 (by kernel_rfl)).symm.trans h0_) (by decide), fun h0_ => absurd ((hoff 10 (by kernel_rfl)).symm.trans h0_) (by decide)⟩
      refine steps_cons ?_ ?_
      ·rintro b a w' ⟨v588, v593, m10_, ha, Q_BK580, Q_HI0, Q_HK, Q_HB, Q_HI0_e5, Q_HO589, Q_HI0_e8, Q_HO594, Q_HI0_e9, Q_X10_⟩ hb_ hon hoff
       refine ⟨_, rfl, fun K hK => ?_⟩
       replace ha := Aside0.mk ha
       have BK580 := Aside0.mk Q_BK580
       have HK := Aside0.mk Q_HK
       have HB := Aside0.mk Q_HB
       refine Kd.R_lit_step (Kd.int .i64) _ 3 ?hg (N := 17) ?hd (xs := ([3, 8, 21] : List Int)) (inner := [.int .i64 3, .int .i64 8, .int .i64 21]) (ok := fun _ => True) (okp := fun _ => True) ?hr ?hp (fun _ hk => hk) trivial (Below.refl _ _) (Nat.le_refl _) (by simp) ?_; (case hd => rfl); (case hg => rfl); (case hr => first | (go_simp; done) | (go_simp; rfl)); (case hp => exact (Reps.one (show Kd.M (Kd.int .i64) _ _ _ 3 [.int .i64 3] from rfl) (Reps.one (show Kd.M (Kd.int .i64) _ _ _ 8 [.int .i64 8] from rfl) (Reps.one (show Kd.M (Kd.int .i64) _ _ _ 21 [.int .i64 21] from rfl) (Reps.none _ _)))))
       intro v588 w17 ho18 hb hg_ hnew_
       clear hg_ hnew_
       (first | rw [← Ny587.out] at ho18 | (simp only [Int.reduceToNat] at ho18; rw [← Ny587.out] at ho18))
       have n0_ := Aside0.mk (Kd.R_lower ho18 (keep_size (w := w) (g := g) (row := none) (nk_ HK.out)))
       have n2_ := Aside0.mk (blk_below (g := gb580) (o := .cells #[.int .i64 a1_0, .slice A1_1 l1_1.length c1_1] 29 (0, 0)) (nb_ BK580.out) hb)
       have n3_ := Aside0.mk (KeepBut.trans (nk_ HK.out) (KeepBut.of_below hb g none) (.inl rfl))
       have n4_ := Aside0.mk (below_step (ne_ HB.out) hb)
       have z_HI0 := fun (h0_ : b 5 = false) => (show IsS106 w0 w17 g s0_0 s0_1 from by first | exact (IsS106.below (by repeat (first | (with_reducible first | exact (Q_HI0 h0_) | apply IsS106.alloc | apply IsS106.drewN | apply IsS106.drew | apply IsS106.set_1 | refine IsS106.far ?_ NB0_580.out _) | exact (Q_HI0 h0_))) hb))
       have z_HI0_e5 := fun (h0_ : b 5 = true) (h1_ : b 8 = false) => (show IsS106 w0 w17 g s0_0 t586 from by first | exact (IsS106.below (by repeat (first | (with_reducible first | exact (Q_HI0_e5 h0_ h1_) | apply IsS106.alloc | apply IsS106.drewN | apply IsS106.drew | apply IsS106.set_1 | refine IsS106.far ?_ NB0_580.out _) | exact (Q_HI0_e5 h0_ h1_))) hb))
       clear BK580
       clear HK
       clear HB
       have HO589 := n0_
       have BK580 := n2_
       have HK := n3_
       have HB := n4_
       clear n0_ n2_ n3_ n4_
       clear hb ho18
       refine hK.out _ _ ⟨v588, v593, m10_, (by rw [ha.out]; exact putSel_upk 3 hb_ rfl rfl rfl), (nb_ BK580.out), z_HI0, (nk_ HK.out), (ne_ HB.out), z_HI0_e5, fun _ => (nr_ HO589.out), fun h0_ _ => absurd ((hoff 8 (by kernel_rfl)).symm.trans h0_) (by decide), fun h0_ => absurd ((hoff 9 (by kernel_rfl)).symm.trans h0_) (by decide), fun h0_ => absurd ((hoff 9 (by kernel_rfl)).symm.trans h0_) (by decide), fun h0_ => absurd ((hoff 10 (by kernel_rfl)).symm.trans h0_) (by decide)⟩
      refine steps_cons ?_ ?_
      ·rintro b a w' ⟨v588, v593, m10_, ha, Q_BK580, Q_HI0, Q_HK, Q_HB, Q_HI0_e5, Q_HO589, Q_HI0_e8, Q_HO594, Q_HI0_e9, Q_X10_⟩ hb_ hon hoff
       refine ⟨_, rfl, fun K hK => ?_⟩
       have e16 : a.tmps[16]? = some (.pointer (some ⟨g, 0, none⟩)) := by rw [ha]; exact (putSel_off rfl).trans rfl
       have e17 : a.tmps[17]? = some (v588) := by rw [ha]; exact putSel_on (e := (7, 17, v588)) 3 rfl rfl (hon 7 (by kernel_rfl)) rfl
       replace ha := Aside0.mk ha
       have BK580 := Aside0.mk Q_BK580
       have HK := Aside0.mk Q_HK
       have HB := Aside0.mk Q_HB
       have HI0 := Aside0.mk (Q_HI0_e5 (hon 5 (by kernel_rfl)) hb_)
       have HO589 := Aside0.mk (Q_HO589 (hon 7 (by kernel_rfl)))
       obtain ⟨Ao21, co21, eo21⟩ := Kd.R_slice HO589.out
       (first | subst eo21 | (injection eo21 with f1_ f2_ f3_; have f4_ := f1_.symm; have f5_ := f3_.symm; clear f1_ f2_ f3_; subst f4_; subst f5_))
       refine goes_ Try.func99 (by kernel_rfl) rfl #[.pointer (some ⟨g, 0, none⟩), .slice Ao21 y587.length co21] (by rfl) rfl rfl (by first | (simp only [List.map_toArray, List.map_cons, List.map_nil, Act.eval, Array.getD_eq_getD_getElem?, Option.getD_some, e16, e17]; done) | (simp only [List.map_toArray, List.map_cons, List.map_nil, Act.eval, Array.getD_eq_getD_getElem?, Option.getD_some, e16, e17]; rfl)) ?_
       with_reducible refine (spec_l30Rd_one.calls k g s0_0 t586 _ _ y587 t590 t591 w0 _ ?side1 ?side2 ?side3 ?side4 ?side5 A6.out).mono ?_
       (case side1 => repeat (first | (with_reducible first | exact HI0.out | apply IsS106.alloc | apply IsS106.drewN | apply IsS106.drew | apply IsS106.set_1 | refine IsS106.far ?_ NB0_580.out _) | exact HI0.out))
       (case side2 => repeat (first | (with_reducible first | exact HB.out | apply below_alloc | apply pw_below_drewN | apply below_drew1 | refine below_set ?_ (IsS106.ge HI0.out) | refine below_set ?_ GE580.out) | exact HB.out))
       (case side3 => exact nc_ (Kd.R_reads' HO589.out).2.2)
       (case side4 => exact (Kd.R_reads' HO589.out).2.1)
       (case side5 => exact far_slice (IsS106.own_ne HI0.out HO589.out (by decide)))
       rintro e w22 ⟨rfl, hi, hb, hk⟩
       refine ⟨_, rfl, ?_⟩
       have n0_ := Aside0.mk (KeepBut.blk hk (g' := gb580) (o := .cells #[.int .i64 a1_0, .slice A1_1 l1_1.length c1_1] 29 (0, 0)) (nb_ BK580.out) NB580_0.out (by simp))
       have n1_ := Aside0.mk (Kd.R_mono (Kd.R_keep (IsS106.apart (show IsS106 w0 _ g s0_0 t586 from ni106_82 HI0.out) (nr_ HO589.out) (by decide)) hk (fun _ h => h.2)) (fun _ h => h.1))
       have n2_ := Aside0.mk (KeepBut.trans (nk_ HK.out) hk (.inl rfl))
       have n3_ := Aside0.mk (hb)
       have n4_ := Aside0.mk (hi)
       clear BK580
       clear HO589
       clear HK
       clear HB
       clear HI0
       have BK580 := n0_
       have HO589 := n1_
       have HK := n2_
       have HB := n3_
       have HI0 := n4_
       clear n0_ n1_ n2_ n3_ n4_
       (try clear hb)
       (try clear hb2)
       (try clear hk)
       (try clear hi)
       refine hK.out _ _ ⟨.slice Ao21 y587.length co21, v593, m10_, (by rw [ha.out]; exact putSel_upk 4 hb_ rfl rfl rfl), (nb_ BK580.out), fun h0_ => absurd ((hon 5 (by kernel_rfl)).symm.trans h0_) (by decide), (nk_ HK.out), (ng106_82 HB.out), fun _ h1_ => absurd ((up_self b 8).symm.trans h1_) (by decide), fun _ => (nr_ HO589.out), fun _ _ => (ni106_82 HI0.out), fun h0_ => absurd ((hoff 9 (by kernel_rfl)).symm.trans h0_) (by decide), fun h0_ => absurd ((hoff 9 (by kernel_rfl)).symm.trans h0_) (by decide), fun h0_ => absurd ((hoff 10 (by kernel_rfl)).symm.trans h0_) (by decide)⟩
      refine steps_cons ?_ ?_
      ·rintro b a w' ⟨v588, v593, m10_, ha, Q_BK580, Q_HI0, Q_HK, Q_HB, Q_HI0_e5, Q_HO589, Q_HI0_e8, Q_HO594, Q_HI0_e9, Q_X10_⟩ hb_ hon hoff
       refine ⟨_, rfl, fun K hK => ?_⟩
       have e10 : a.tmps[10]? = some (.pointer (some ⟨g, 0, none⟩)) := by rw [ha]; exact (putSel_off rfl).trans rfl
       have e11 : a.tmps[11]? = some (.agg #[.int .i64 a1_0, .slice A1_1 l1_1.length c1_1]) := by rw [ha]; exact putSel_on (e := (1, 11, .agg #[.int .i64 a1_0, .slice A1_1 l1_1.length c1_1])) 0 rfl rfl (hon 1 (by kernel_rfl)) rfl
       have e15 : a.tmps[15]? = some (.int .i64 t585) := by rw [ha]; exact putSel_on (e := (5, 15, .int .i64 t585)) 2 rfl rfl (hon 5 (by kernel_rfl)) rfl
       have e18 : a.tmps[18]? = some (.int .i64 t590) := by rw [ha]; exact putSel_on (e := (8, 18, .int .i64 t590)) 4 rfl rfl (hon 8 (by kernel_rfl)) rfl
       replace ha := Aside0.mk ha
       have BK580 := Aside0.mk Q_BK580
       have HK := Aside0.mk Q_HK
       have HB := Aside0.mk Q_HB
       have HO589 := Aside0.mk (Q_HO589 (hon 7 (by kernel_rfl)))
       have HI0 := Aside0.mk (Q_HI0_e8 (hon 8 (by kernel_rfl)) hb_)
       refine goes_ Try.func89 (by kernel_rfl) rfl #[.pointer (some ⟨g, 0, none⟩), .agg #[.int .i64 a1_0, .slice A1_1 l1_1.length c1_1], .int .i64 t585, .int .i64 t590] (by rfl) rfl rfl (by first | (simp only [List.map_toArray, List.map_cons, List.map_nil, Act.eval, Array.getD_eq_getD_getElem?, Option.getD_some, e10, e11, e15, e18]; done) | (simp only [List.map_toArray, List.map_cons, List.map_nil, Act.eval, Array.getD_eq_getD_getElem?, Option.getD_some, e10, e11, e15, e18]; rfl)) ?_
       with_reducible refine (spec_l30Walk.calls k g s0_0 t591 a1_0 _ _ l1_1 t585 t590 t592 t595 w0 _ ?side1 ?side2 ?side3 ?side4 A7.out).mono ?_
       (case side1 => repeat (first | (with_reducible first | exact HI0.out | apply IsS106.alloc | apply IsS106.drewN | apply IsS106.drew | apply IsS106.set_1 | refine IsS106.far ?_ NB0_580.out _) | exact HI0.out))
       (case side2 => repeat (first | (with_reducible first | exact HB.out | apply below_alloc | apply pw_below_drewN | apply below_drew1 | refine below_set ?_ (IsS106.ge HI0.out) | refine below_set ?_ GE580.out) | exact HB.out))
       (case side3 => exact Kd.C_foot_step HR1_1.out (nk_ HK.out))
       (case side4 => exact HC1_1.out)
       rintro e w23 ⟨v593, rfl, ho0, hi, hb, hk⟩
       refine ⟨_, rfl, ?_⟩
       have n0_ := Aside0.mk (KeepBut.blk hk (g' := gb580) (o := .cells #[.int .i64 a1_0, .slice A1_1 l1_1.length c1_1] 29 (0, 0)) (nb_ BK580.out) NB580_0.out (by simp))
       have n1_ := Aside0.mk (Kd.R_mono (Kd.R_told (Kd.R_oldK (IsS106.apart (show IsS106 w0 _ g s0_0 t591 from ni106_82 HI0.out) (nr_ HO589.out) (by decide)) hk) (Kd.R_base ho0)) (fun _ h_ => h_.1))
       have n2_ := Aside0.mk (Kd.R_lower (Kd.R_new' ho0 (Kd.R_lt (nr_ HO589.out))) (keep_size (w := w) (g := g) (row := none) (nk_ HK.out)))
       have n3_ := Aside0.mk (KeepBut.trans (nk_ HK.out) hk (.inl rfl))
       have n4_ := Aside0.mk (hb)
       have n5_ := Aside0.mk (hi)
       clear BK580
       clear HO589
       clear HK
       clear HB
       clear HI0
       have BK580 := n0_
       have HO589 := n1_
       have HO594 := n2_
       have HK := n3_
       have HB := n4_
       have HI0 := n5_
       clear n0_ n1_ n2_ n3_ n4_ n5_
       (try clear hb)
       (try clear hb2)
       (try clear hk)
       (try clear hi)
       (try clear ho0)
       refine hK.out _ _ ⟨v588, v593, m10_, (by rw [ha.out]; exact putSel_upk 5 hb_ rfl rfl rfl), (nb_ BK580.out), fun h0_ => absurd ((hon 5 (by kernel_rfl)).symm.trans h0_) (by decide), (nk_ HK.out), (ng106_82 HB.out), fun _ h1_ => absurd ((hon 8 (by kernel_rfl)).symm.trans h1_) (by decide), fun _ => (by (with_reducible repeat (first | apply Kd.R_alloc | apply Kd.R_drewN | apply Kd.R_drew)); exact Kd.R_mono HO589.out (fun _ hk => by first | exact hk.2 | trivial | simp_all)), fun _ h1_ => absurd ((up_self b 9).symm.trans h1_) (by decide), fun _ => (by (with_reducible repeat (first | apply Kd.R_alloc | apply Kd.R_drewN | apply Kd.R_drew)); exact Kd.R_mono HO594.out (fun _ hk => by first | exact hk.2 | trivial | simp_all)), fun _ => (ni106_82 HI0.out), fun h0_ => absurd ((hoff 10 (by kernel_rfl)).symm.trans h0_) (by decide)⟩
      refine steps_cons ?_ ?_
      ·rintro b a w' ⟨v588, v593, m10_, ha, Q_BK580, Q_HI0, Q_HK, Q_HB, Q_HI0_e5, Q_HO589, Q_HI0_e8, Q_HO594, Q_HI0_e9, Q_X10_⟩ hb_ hon hoff
       refine ⟨_, rfl, fun K hK => ?_⟩
       have e19 : a.tmps[19]? = some (v593) := by rw [ha]; exact putSel_on (e := (9, 19, v593)) 5 rfl rfl (hon 9 (by kernel_rfl)) rfl
       replace ha := Aside0.mk ha
       have BK580 := Aside0.mk Q_BK580
       have HK := Aside0.mk Q_HK
       have HB := Aside0.mk Q_HB
       have HO589 := Aside0.mk (Q_HO589 (hon 7 (by kernel_rfl)))
       have HO594 := Aside0.mk (Q_HO594 (hon 9 (by kernel_rfl)))
       have HI0 := Aside0.mk (Q_HI0_e9 (hon 9 (by kernel_rfl)))
       refine value_ (w1 := w') (v := v593) (by rfl) rfl ?_ ?_
       ·go_simp
        (try simp only [i64_w])
        try rfl
       refine hK.out _ _ ⟨v588, v593, (v593), (by rw [ha.out]; exact putSel_upk 6 hb_ rfl rfl rfl), Q_BK580, fun h0_ => absurd ((hon 5 (by kernel_rfl)).symm.trans h0_) (by decide), Q_HK, Q_HB, fun _ h1_ => absurd ((hon 8 (by kernel_rfl)).symm.trans h1_) (by decide), Q_HO589, fun _ h1_ => absurd ((hon 9 (by kernel_rfl)).symm.trans h1_) (by decide), Q_HO594, Q_HI0_e9, fun _ => rfl⟩
      exact steps_nil
     rintro b a w23 hall ⟨v588, v593, m10_, ha, Q_BK580, Q_HI0, Q_HK, Q_HB, Q_HI0_e5, Q_HO589, Q_HI0_e8, Q_HO594, Q_HI0_e9, Q_X10_⟩
     clear BK580 HB HI0 HK
     have hb1_ := hall 1 (by kernel_rfl)
     have hb4_ := hall 4 (by kernel_rfl)
     have hb5_ := hall 5 (by kernel_rfl)
     have hb7_ := hall 7 (by kernel_rfl)
     have hb8_ := hall 8 (by kernel_rfl)
     have hb9_ := hall 9 (by kernel_rfl)
     have hb10_ := hall 10 (by kernel_rfl)
     subst ha
     obtain rfl := (Q_X10_ hb10_).symm
     simp only [putSel, hb1_, hb4_, hb5_, hb7_, hb8_, hb9_, hb10_, if_true, Act.put, List.setIfInBounds_toArray, List.set_cons_zero, List.set_cons_succ]
     have BK580 := Aside0.mk Q_BK580
     clear Q_BK580
     clear Q_HI0
     have HK := Aside0.mk Q_HK
     clear Q_HK
     have HB := Aside0.mk Q_HB
     clear Q_HB
     clear Q_HI0_e5
     have HO589 := Aside0.mk (Q_HO589 hb7_)
     clear Q_HO589
     clear Q_HI0_e8
     have HO594 := Aside0.mk (Q_HO594 hb9_)
     clear Q_HO594
     have HI0 := Aside0.mk (Q_HI0_e9 hb9_)
     clear Q_HI0_e9
     try replace HO589 := Aside0.mk (Go.Proofs.YtpjmkghmjpbldaaX.Kd.R_apart_back (fun _ _ _ _ _ _ h_ => h_) HO589.out HO594.out (fun k_ hk => by first | exact hk | exact hk | simp_all))
     clear hall hb1_ hb4_ hb5_ hb7_ hb8_ hb9_ hb10_
     try go_wp2_with (first | ((with_reducible refine gate_callee (f := 88) rfl ?_); refine goesL_ (some 21) rfl rfl Try.func88 (by kernel_rfl) rfl #[.pointer (some ⟨g, 0, none⟩), .int .i64 10] rfl na_ ?_; (with_reducible refine (spec_l30Rd_pick.calls k g s0_0 t595 10 t596 t597 w0 _ ?side1 ?side2 A8.out).mono ?_); (case side1 => repeat (first | (with_reducible first | exact HI0.out | apply IsS106.alloc | apply IsS106.drewN | apply IsS106.drew | apply IsS106.set_1 | refine IsS106.far ?_ NB0_580.out _) | exact HI0.out)); (case side2 => repeat (first | (with_reducible first | exact HB.out | apply below_alloc | apply pw_below_drewN | apply below_drew1 | refine below_set ?_ (IsS106.ge HI0.out) | refine below_set ?_ GE580.out) | exact HB.out)); rintro e w24 ⟨rfl, hi, hb, hk⟩; refine ⟨_, rfl, ?_⟩; have n0_ := Aside0.mk (KeepBut.blk hk (g' := gb580) (o := .cells #[.int .i64 a1_0, .slice A1_1 l1_1.length c1_1] 29 (0, 0)) (nb_ BK580.out) NB580_0.out (by simp)); have n1_ := Aside0.mk (Kd.R_mono (Kd.R_keep (IsS106.apart (show IsS106 w0 _ g s0_0 t595 from ni106_82 HI0.out) (nr_ HO589.out) (by decide)) hk (fun _ h => h.2)) (fun _ h => h.1)); have n2_ := Aside0.mk (Kd.R_mono (Kd.R_keep (IsS106.apart (show IsS106 w0 _ g s0_0 t595 from ni106_82 HI0.out) (nr_ HO594.out) (by decide)) hk (fun _ h => h.2)) (fun _ h => h.1)); have n3_ := Aside0.mk (KeepBut.trans (nk_ HK.out) hk (.inl rfl)); have n4_ := Aside0.mk (hb); have n5_ := Aside0.mk (hi); clear BK580; clear HO589; clear HO594; clear HK; clear HB; clear HI0; have BK580 := n0_; have HO589 := n1_; have HO594 := n2_; have HK := n3_; have HB := n4_; have HI0 := n5_; clear n0_ n1_ n2_ n3_ n4_ n5_; (try clear hb); (try clear hb2); (try clear hk); (try clear hi)) | ((with_reducible refine gate_callee (f := 88) rfl ?_); refine goesL_ (some 25) rfl rfl Try.func88 (by kernel_rfl) rfl #[.pointer (some ⟨g, 0, none⟩), .int .i64 17] rfl na_ ?_; (with_reducible refine (spec_l30Rd_pick.calls k g s0_0 t597 17 t598 t599 w0 _ ?side1 ?side2 A10.out).mono ?_); (case side1 => repeat (first | (with_reducible first | exact HI0.out | apply IsS106.alloc | apply IsS106.drewN | apply IsS106.drew | apply IsS106.set_1 | refine IsS106.far ?_ NB0_580.out _) | exact HI0.out)); (case side2 => repeat (first | (with_reducible first | exact HB.out | apply below_alloc | apply pw_below_drewN | apply below_drew1 | refine below_set ?_ (IsS106.ge HI0.out) | refine below_set ?_ GE580.out) | exact HB.out)); rintro e w25 ⟨rfl, hi, hb, hk⟩; refine ⟨_, rfl, ?_⟩; have n0_ := Aside0.mk (KeepBut.blk hk (g' := gb580) (o := .cells #[.int .i64 a1_0, .slice A1_1 l1_1.length c1_1] 29 (0, 0)) (nb_ BK580.out) NB580_0.out (by simp)); have n1_ := Aside0.mk (Kd.R_mono (Kd.R_keep (IsS106.apart (show IsS106 w0 _ g s0_0 t597 from ni106_82 HI0.out) (nr_ HO589.out) (by decide)) hk (fun _ h => h.2)) (fun _ h => h.1)); have n2_ := Aside0.mk (Kd.R_mono (Kd.R_keep (IsS106.apart (show IsS106 w0 _ g s0_0 t597 from ni106_82 HI0.out) (nr_ HO594.out) (by decide)) hk (fun _ h => h.2)) (fun _ h => h.1)); have n3_ := Aside0.mk (KeepBut.trans (nk_ HK.out) hk (.inl rfl)); have n4_ := Aside0.mk (hb); have n5_ := Aside0.mk (hi); clear BK580; clear HO589; clear HO594; clear HK; clear HB; clear HI0; have BK580 := n0_; have HO589 := n1_; have HO594 := n2_; have HK := n3_; have HB := n4_; have HI0 := n5_; clear n0_ n1_ n2_ n3_ n4_ n5_; (try clear hb); (try clear hb2); (try clear hk); (try clear hi)) | ((with_reducible refine gate_builtin (b := .append) (xs := #[.tmp 23, .tmp 27]) rfl ?_); at_builtin; refine Kd.R_append (Kd.int .i64) w.heap.size rfl (.tmp 23) (.tmp 27) 41 3 (.int .i64 0) 8 rfl Try.underlying41 info3 rfl (by decide) (by omega) v593 t592 (wrap64 (t598 - 1)) [.int .i64 (wrap64 (t598 - 1))] (fun k_ => some k_ ≠ (v588 : Value).ownBlock) (fun _ => False) rfl rfl ?aP (fun _ hk => hk.elim) ?aF ?aO (Below.refl _ _) ?aS ?aL ?_; (case aP => exact rfl); (case aF => exact (fun k_ hk => Kd.fresh' (Kd.R_lt (nr_ HO589.out)) k_ hk)); (case aO => exact (nr_ HO594.out)); (case aS => exact (keep_size (w := w) (g := g) (row := none) (nk_ HK.out))); (case aL => have := LMc11.out; omega); intro v601 w26 ho hb hg hat; rw [← Ny600.out] at ho; have n0_ := Aside0.mk (IsS106.grown (show IsS106 w0 _ g s0_0 t599 from ni106_82 HI0.out) hg (IsS106.own_ne HI0.out HO594.out (by decide))); have n1_ := Aside0.mk (blk_grown (g := gb580) (o := .cells #[.int .i64 a1_0, .slice A1_1 l1_1.length c1_1] 29 (0, 0)) (nb_ BK580.out) hg (Kd.R_ne HO594.out BK580.out (by decide))); have n2_ := Aside0.mk (Kd.R_after (ok := (fun _ => True)) (by (with_reducible repeat (first | apply Kd.R_alloc | apply Kd.R_drewN | apply Kd.R_drew)); exact Kd.R_mono HO589.out (fun _ hk => by first | exact ⟨trivial, hk⟩ | trivial | simp_all)) hg hat); have n3_ := Aside0.mk (below_weaken (ng106_82 HB.out) HL.out hb); have n4_ := Aside0.mk (KeepBut.trans (nk_ HK.out) (KeepBut.of_grown hg g) (Kd.R_base2 HO594.out)); have n5_ := Aside0.mk (ho); clear HI0; clear BK580; clear HO589; clear HB; clear HK; clear HO594; have HI0 := n0_; have BK580 := n1_; have HO589 := n2_; have HB := n3_; have HK := n4_; have HO602 := n5_; clear n0_ n1_ n2_ n3_ n4_ n5_; clear ho hb hg hat))
     go_ret
     exact ⟨_, by first | rfl | (simp [errW_none, errW_some] <;> rfl) | (simp [*, errW_none, errW_some] <;> rfl), by (with_reducible repeat (first | apply Kd.R_alloc | apply Kd.R_drewN | apply Kd.R_drew)); exact Kd.R_mono HO602.out (fun _ hk => trivial), ni106_82 HI0.out, by repeat (first | (with_reducible first | exact HB.out | apply below_alloc | apply pw_below_drewN | apply below_drew1 | refine below_set ?_ (IsS106.ge HI0.out) | refine below_set ?_ GE580.out) | exact HB.out), by repeat (first | (with_reducible first | exact HK.out | apply KeepBut.set_ | apply keep_drewN | apply keep_drew | apply keep_alloc | refine keep_far ?_ GW580.out _) | exact HK.out)⟩
    ·rw [if_neg c11] at H
     exact absurd H (by simp)
   ·rw [if_neg c9] at H
    have c9b0 : (t596 == 0) = false := beq_eq_false_iff_ne.mpr c9
    have c9b1 : (t596 != 0) = true := bne_iff_ne.mpr c9
    simp only [Option.some.injEq, Prod.mk.injEq] at H
    obtain ⟨rfl, rfl⟩ := H
    go_enter Try.func82, Try.ntmps82
    try go_wp2_with (first | ((with_reducible refine gate_dst (N := 3) rfl ?_); refine box_event ?hg (N := 3) ?hd (cs := #[.int .i64 a1_0, .slice A1_1 l1_1.length c1_1]) (t := 29) ?hr ?_; (case hd => rfl); (case hg => rfl); (case hr => first | (go_simp; done) | (go_simp; rfl)); intro gb580 hg w27 hbox hb; have n0_ := Aside0.mk (IsS106.below (ni106_82 HI0.out) hb); have n1_ := Aside0.mk (KeepBut.trans (nk_ HK.out) (KeepBut.of_below hb g none) (.inl rfl)); have n2_ := Aside0.mk (below_step (ng106_82 HB.out) hb); have n3_ := Aside0.mk (hbox); have n4_ := Aside0.mk ((by rw [hg]; exact (keep_size (w := w) (g := g) (row := none) (nk_ HK.out)) : w.heap.size ≤ gb580)); have n5_ := Aside0.mk ((Nat.le_trans HW0.out (by rw [hg]; exact (keep_size (w := w) (g := g) (row := none) (nk_ HK.out)) : w.heap.size ≤ gb580) : w0.heap.size ≤ gb580)); have n6_ := Aside0.mk ((by rw [hg]; exact Nat.ne_of_lt (IsS106.lt (show IsS106 w0 _ g s0_0 s0_1 from ni106_82 HI0.out)) : g ≠ gb580)); have n7_ := Aside0.mk ((by rw [hg]; exact Nat.ne_of_gt (IsS106.lt (show IsS106 w0 _ g s0_0 s0_1 from ni106_82 HI0.out)) : gb580 ≠ g)); clear HI0; clear HK; clear HB; have HI0 := n0_; have HK := n1_; have HB := n2_; have BK580 := n3_; have GW580 := n4_; have GE580 := n5_; have NB0_580 := n6_; have NB580_0 := n7_; clear n0_ n1_ n2_ n3_ n4_ n5_ n6_ n7_; clear hb hbox hg; have hnb28 := NB580_0.out; have hnc28 := NB0_580.out; have hcz29_0 : w27.cell? ⟨gb580, 0, none⟩ = some (.int .i64 a1_0) := (blk_cell BK580.out 0).trans rfl; have hcz29_1 : w27.cell? ⟨gb580, 1, none⟩ = some (.slice A1_1 l1_1.length c1_1) := (blk_cell BK580.out 1).trans rfl; have hfz29_0 := blk_frozen BK580.out 0; have hfz29_1 := blk_frozen BK580.out 1) | ((with_reducible refine gate_callee (f := 60) rfl ?_); refine goesL_ (some 7) rfl rfl Try.func60 (by kernel_rfl) rfl #[.agg #[.int .i64 a1_0, .slice A1_1 l1_1.length c1_1]] rfl na_ ?_; (with_reducible refine (spec_l1Ok.calls k a1_0 _ _ l1_1 true _ ?side1 ?side2 A3.out).mono ?_); (case side1 => exact Kd.C_foot_now HR1_1.out (nk_ HK.out)); (case side2 => exact HC1_1.out); rintro e w30 ⟨rfl, hb⟩; refine ⟨_, rfl, ?_⟩; have n0_ := Aside0.mk (IsS106.below (ni106_82 HI0.out) hb); have n1_ := Aside0.mk (blk_below (g := gb580) (o := .cells #[.int .i64 a1_0, .slice A1_1 l1_1.length c1_1] 29 (0, 0)) (nb_ BK580.out) hb); have n2_ := Aside0.mk (KeepBut.trans (nk_ HK.out) (KeepBut.of_below hb g none) (.inl rfl)); have n3_ := Aside0.mk (below_step (ng106_82 HB.out) hb); clear HI0; clear BK580; clear HK; clear HB; have HI0 := n0_; have BK580 := n1_; have HK := n2_; have HB := n3_; clear n0_ n1_ n2_ n3_; (try clear hb); (try clear hb2); (try clear hk); (try clear hi)))
    have n0_ := Aside0.mk (blk_drew BK580.out)
    have n1_ := Aside0.mk (IsS106.drew HI0.out)
    have n2_ := Aside0.mk (keep_drew HK.out)
    have n3_ := Aside0.mk (below_drew1 HB.out)
    clear BK580
    clear HI0
    clear HK
    clear HB
    have BK580 := n0_
    have HI0 := n1_
    have HK := n2_
    have HB := n3_
    clear n0_ n1_ n2_ n3_
    refine start_ (n := 11) (S := fun w' => True) (ds := []) z82_0 (by kernel_rfl) rfl rfl trivial (fun hHeld => ?_); refine with_tabW spec_l30AnyWalk.tab3 spec_l30AnyWalk.bits3 (fun HT_ HW_ => ?_)
    generalize w30.drew = w31 at BK580 HI0 HK HB hHeld ⊢
    refine pu_ 0 10 z82_1 HT_.out ?_
    refine pu_ 2 12 z82_2 HT_.out ?_
    refine pu_ 3 13 z82_3 HT_.out ?_
    refine pu_ 6 16 z82_4 HT_.out ?_
    refine inv_at [1, 4, 5, 7, 8, 9, 10] (fun a0_ b a w' => ∃ (v588 : Value) (v593 : Value) (m10_ : Value), a = putSel a0_ b [(1, 11, .agg #[.int .i64 a1_0, .slice A1_1 l1_1.length c1_1]), (4, 14, .int .i64 a1_0), (5, 15, .int .i64 t585), (7, 17, v588), (8, 18, .int .i64 t590), (9, 19, v593), (10, 5, m10_)] ∧ (w'.heap[gb580]? = some (.cells #[.int .i64 a1_0, .slice A1_1 l1_1.length c1_1] 29 (0, 0))) ∧ (b 5 = false → IsS106 w0 w' g s0_0 s0_1) ∧ (KeepBut w w' g none) ∧ (Below w0.heap.size w0 w') ∧ (b 5 = true → b 8 = false → IsS106 w0 w' g s0_0 t586) ∧ (b 7 = true → Kd.R (Kd.int .i64) 3 w' w.heap.size (fun _ => True) v588 y587) ∧ (b 8 = true → b 9 = false → IsS106 w0 w' g s0_0 t591) ∧ (b 9 = true → Kd.R (Kd.int .i64) 3 w' w.heap.size (fun k_ => some k_ ≠ (v588 : Value).ownBlock) v593 t592) ∧ (b 9 = true → IsS106 w0 w' g s0_0 t595) ∧ (b 10 = true → (m10_ : Value) = v593)) HT_.out HW_.out (by kernel_rfl) (by kernel_rfl) ?_ ?_ ?_
    ·exact ⟨.bool false, .bool false, .bool false, by simp only [putSel, Bool.false_eq_true, if_false], BK580.out, fun _ => HI0.out, HK.out, HB.out, fun h_ => absurd h_ (by decide), fun h_ => absurd h_ (by decide), fun h_ => absurd h_ (by decide), fun h_ => absurd h_ (by decide), fun h_ => absurd h_ (by decide), fun h_ => absurd h_ (by decide)⟩
    ·skip
     clear BK580 HB HI0 HK
     refine steps_cons ?_ ?_
     ·rintro b a w' ⟨v588, v593, m10_, ha, Q_BK580, Q_HI0, Q_HK, Q_HB, Q_HI0_e5, Q_HO589, Q_HI0_e8, Q_HO594, Q_HI0_e9, Q_X10_⟩ hb_ hon hoff
      refine ⟨_, rfl, fun K hK => ?_⟩
      have e3 : a.tmps[3]? = some (.pointer (some ⟨gb580, 0, none⟩)) := by rw [ha]; exact (putSel_off rfl).trans rfl
      replace ha := Aside0.mk ha
      have BK580 := Aside0.mk Q_BK580
      have HK := Aside0.mk Q_HK
      have HB := Aside0.mk Q_HB
      have hc0_ : w'.cell? ⟨gb580, 0, none⟩ = some (.int .i64 a1_0) := (blk_cell BK580.out 0).trans rfl
      have hc1_ : w'.cell? ⟨gb580, 1, none⟩ = some (.slice A1_1 l1_1.length c1_1) := (blk_cell BK580.out 1).trans rfl
      refine value_ (w1 := w') (v := .agg #[.int .i64 a1_0, .slice A1_1 l1_1.length c1_1]) (by rfl) rfl ?_ ?_
      ·go_simp
       (try simp only [i64_w])
       try rfl
      refine hK.out _ _ ⟨v588, v593, m10_, (by rw [ha.out]; exact putSel_upk 0 hb_ rfl rfl rfl), Q_BK580, Q_HI0, Q_HK, Q_HB, Q_HI0_e5, Q_HO589, Q_HI0_e8, fun h0_ => absurd ((hoff 9 (by kernel_rfl)).symm.trans h0_) (by decide), fun h0_ => absurd ((hoff 9 (by kernel_rfl)).symm.trans h0_) (by decide), fun h0_ => absurd ((hoff 10 (by kernel_rfl)).symm.trans h0_) (by decide)⟩
     refine steps_cons ?_ ?_
     ·rintro b a w' ⟨v588, v593, m10_, ha, Q_BK580, Q_HI0, Q_HK, Q_HB, Q_HI0_e5, Q_HO589, Q_HI0_e8, Q_HO594, Q_HI0_e9, Q_X10_⟩ hb_ hon hoff
      refine ⟨_, rfl, fun K hK => ?_⟩
      have e13 : a.tmps[13]? = some (.pointer (some ⟨gb580, 0, none⟩)) := by rw [ha]; exact (putSel_off rfl).trans rfl
      replace ha := Aside0.mk ha
      have BK580 := Aside0.mk Q_BK580
      have HI0 := Aside0.mk (Q_HI0 (hoff 5 (by kernel_rfl)))
      have HK := Aside0.mk Q_HK
      have HB := Aside0.mk Q_HB
      have hc0_ : w'.cell? ⟨gb580, 0, none⟩ = some (.int .i64 a1_0) := (blk_cell BK580.out 0).trans rfl
      have hc1_ : w'.cell? ⟨gb580, 1, none⟩ = some (.slice A1_1 l1_1.length c1_1) := (blk_cell BK580.out 1).trans rfl
      refine value_ (w1 := w') (v := .int .i64 a1_0) (by rfl) rfl ?_ ?_
      ·go_simp
       (try simp only [i64_w])
       try rfl
      refine hK.out _ _ ⟨v588, v593, m10_, (by rw [ha.out]; exact putSel_upk 1 hb_ rfl rfl rfl), Q_BK580, Q_HI0, Q_HK, Q_HB, fun h0_ _ => absurd ((hoff 5 (by kernel_rfl)).symm.trans h0_) (by decide), Q_HO589, fun h0_ _ => absurd ((hoff 8 (by kernel_rfl)).symm.trans h0_) (by decide), fun h0_ => absurd ((hoff 9 (by kernel_rfl)).symm.trans h0_) (by decide), fun h0_ => absurd ((hoff 9 (by kernel_rfl)).symm.trans h0_) (by decide), fun h0_ => absurd ((hoff 10 (by kernel_rfl)).symm.trans h0_) (by decide)⟩
     refine steps_cons ?_ ?_
     ·rintro b a w' ⟨v588, v593, m10_, ha, Q_BK580, Q_HI0, Q_HK, Q_HB, Q_HI0_e5, Q_HO589, Q_HI0_e8, Q_HO594, Q_HI0_e9, Q_X10_⟩ hb_ hon hoff
      refine ⟨_, rfl, fun K hK => ?_⟩
      have e12 : a.tmps[12]? = some (.pointer (some ⟨g, 0, none⟩)) := by rw [ha]; exact (putSel_off rfl).trans rfl
      have e14 : a.tmps[14]? = some (.int .i64 a1_0) := by rw [ha]; exact putSel_on (e := (4, 14, .int .i64 a1_0)) 1 rfl rfl (hon 4 (by kernel_rfl)) rfl
      replace ha := Aside0.mk ha
      have BK580 := Aside0.mk Q_BK580
      have HI0 := Aside0.mk (Q_HI0 hb_)
      have HK := Aside0.mk Q_HK
      have HB := Aside0.mk Q_HB
      refine goes_ Try.func88 (by kernel_rfl) rfl #[.pointer (some ⟨g, 0, none⟩), .int .i64 a1_0] (by rfl) rfl rfl (by first | (simp only [List.map_toArray, List.map_cons, List.map_nil, Act.eval, Array.getD_eq_getD_getElem?, Option.getD_some, e12, e14]; done) | (simp only [List.map_toArray, List.map_cons, List.map_nil, Act.eval, Array.getD_eq_getD_getElem?, Option.getD_some, e12, e14]; rfl)) ?_
      with_reducible refine (spec_l30Rd_pick.calls k g s0_0 s0_1 a1_0 t585 t586 w0 _ ?side1 ?side2 A5.out).mono ?_
      (case side1 => repeat (first | (with_reducible first | exact HI0.out | apply IsS106.alloc | apply IsS106.drewN | apply IsS106.drew | apply IsS106.set_1 | refine IsS106.far ?_ NB0_580.out _) | exact HI0.out))
      (case side2 => repeat (first | (with_reducible first | exact HB.out | apply below_alloc | apply pw_below_drewN | apply below_drew1 | refine below_set ?_ (IsS106.ge HI0.out) | refine below_set ?_ GE580.out) | exact HB.out))
      rintro e w32 ⟨rfl, hi, hb, hk⟩
      refine ⟨_, rfl, ?_⟩
      have n0_ := Aside0.mk (KeepBut.blk hk (g' := gb580) (o := .cells #[.int .i64 a1_0, .slice A1_1 l1_1.length c1_1] 29 (0, 0)) (nb_ BK580.out) NB580_0.out (by simp))
      have n1_ := Aside0.mk (KeepBut.trans (nk_ HK.out) hk (.inl rfl))
      have n2_ := Aside0.mk (hb)
      have n3_ := Aside0.mk (hi)
      have z_HO589 := fun (h0_ : b 7 = true) => (show Kd.R (Kd.int .i64) 3 w32 w.heap.size (fun _ => True) v588 y587 from by first | exact (Kd.R_mono (Kd.R_keep (IsS106.apart (show IsS106 w0 _ g s0_0 s0_1 from ni106_82 HI0.out) (by (with_reducible repeat (first | apply Kd.R_alloc | apply Kd.R_drewN | apply Kd.R_drew)); exact (Q_HO589 h0_)) (by decide)) hk (fun _ h => h.2)) (fun _ h => h.1)) | exact Kd.R_mono (Kd.R_mono (Kd.R_keep (IsS106.apart (show IsS106 w0 _ g s0_0 s0_1 from ni106_82 HI0.out) (by (with_reducible repeat (first | apply Kd.R_alloc | apply Kd.R_drewN | apply Kd.R_drew)); exact (Q_HO589 h0_)) (by decide)) hk (fun _ h => h.2)) (fun _ h => h.1)) (fun _ h_ => by first | trivial | exact h_ | exact h_.1))
      clear BK580
      clear HK
      clear HB
      clear HI0
      have BK580 := n0_
      have HK := n1_
      have HB := n2_
      have HI0 := n3_
      clear n0_ n1_ n2_ n3_
      (try clear hb)
      (try clear hb2)
      (try clear hk)
      (try clear hi)
      refine hK.out _ _ ⟨v588, v593, m10_, (by rw [ha.out]; exact putSel_upk 2 hb_ rfl rfl rfl), (nb_ BK580.out), fun h0_ => absurd ((up_self b 5).symm.trans h0_) (by decide), (nk_ HK.out), (ng106_82 HB.out), fun _ _ => (ni106_82 HI0.out), z_HO589, fun h0_ _ => absurd ((hoff 8 (by kernel_rfl)).symm.trans h0_) (by decide), fun h0_ => absurd ((hoff 9 (by kernel_rfl)).symm.trans h0_) (by decide), fun h0_ => absurd ((hoff 9 (by kernel_rfl)).symm.trans h0_) (by decide), fun h0_ => absurd ((hoff 10 (by kernel_rfl)).symm.trans h0_) (by decide)⟩
     refine steps_cons ?_ ?_
     ·rintro b a w' ⟨v588, v593, m10_, ha, Q_BK580, Q_HI0, Q_HK, Q_HB, Q_HI0_e5, Q_HO589, Q_HI0_e8, Q_HO594, Q_HI0_e9, Q_X10_⟩ hb_ hon hoff
      refine ⟨_, rfl, fun K hK => ?_⟩
      replace ha := Aside0.mk ha
      have BK580 := Aside0.mk Q_BK580
      have HK := Aside0.mk Q_HK
      have HB := Aside0.mk Q_HB
      refine Kd.R_lit_step (Kd.int .i64) _ 3 ?hg (N := 17) ?hd (xs := ([3, 8, 21] : List Int)) (inner := [.int .i64 3, .int .i64 8, .int .i64 21]) (ok := fun _ => True) (okp := fun _ => True) ?hr ?hp (fun _ hk => hk) trivial (Below.refl _ _) (Nat.le_refl _) (by simp) ?_; (case hd => rfl); (case hg => rfl); (case hr => first | (go_simp; done) | (go_simp; rfl)); (case hp => exact (Reps.one (show Kd.M (Kd.int .i64) _ _ _ 3 [.int .i64 3] from rfl) (Reps.one (show Kd.M (Kd.int .i64) _ _ _ 8 [.int .i64 8] from rfl) (Reps.one (show Kd.M (Kd.int .i64) _ _ _ 21 [.int .i64 21] from rfl) (Reps.none _ _)))))
      intro v588 w32 ho33 hb hg_ hnew_
      clear hg_ hnew_
      (first | rw [← Ny587.out] at ho33 | (simp only [Int.reduceToNat] at ho33; rw [← Ny587.out] at ho33))
      have n0_ := Aside0.mk (Kd.R_lower ho33 (keep_size (w := w) (g := g) (row := none) (nk_ HK.out)))
      have n2_ := Aside0.mk (blk_below (g := gb580) (o := .cells #[.int .i64 a1_0, .slice A1_1 l1_1.length c1_1] 29 (0, 0)) (nb_ BK580.out) hb)
      have n3_ := Aside0.mk (KeepBut.trans (nk_ HK.out) (KeepBut.of_below hb g none) (.inl rfl))
      have n4_ := Aside0.mk (below_step (ne_ HB.out) hb)
      have z_HI0 := fun (h0_ : b 5 = false) => (show IsS106 w0 w32 g s0_0 s0_1 from by first | exact (IsS106.below (by repeat (first | (with_reducible first | exact (Q_HI0 h0_) | apply IsS106.alloc | apply IsS106.drewN | apply IsS106.drew | apply IsS106.set_1 | refine IsS106.far ?_ NB0_580.out _) | exact (Q_HI0 h0_))) hb))
      have z_HI0_e5 := fun (h0_ : b 5 = true) (h1_ : b 8 = false) => (show IsS106 w0 w32 g s0_0 t586 from by first | exact (IsS106.below (by repeat (first | (with_reducible first | exact (Q_HI0_e5 h0_ h1_) | apply IsS106.alloc | apply IsS106.drewN | apply IsS106.drew | apply IsS106.set_1 | refine IsS106.far ?_ NB0_580.out _) | exact (Q_HI0_e5 h0_ h1_))) hb))
      clear BK580
      clear HK
      clear HB
      have HO589 := n0_
      have BK580 := n2_
      have HK := n3_
      have HB := n4_
      clear n0_ n2_ n3_ n4_
      clear hb ho33
      refine hK.out _ _ ⟨v588, v593, m10_, (by rw [ha.out]; exact putSel_upk 3 hb_ rfl rfl rfl), (nb_ BK580.out), z_HI0, (nk_ HK.out), (ne_ HB.out), z_HI0_e5, fun _ => (nr_ HO589.out), fun h0_ _ => absurd ((hoff 8 (by kernel_rfl)).symm.trans h0_) (by decide), fun h0_ => absurd ((hoff 9 (by kernel_rfl)).symm.trans h0_) (by decide), fun h0_ => absurd ((hoff 9 (by kernel_rfl)).symm.trans h0_) (by decide), fun h0_ => absurd ((hoff 10 (by kernel_rfl)).symm.trans h0_) (by decide)⟩
     refine steps_cons ?_ ?_
     ·rintro b a w' ⟨v588, v593, m10_, ha, Q_BK580, Q_HI0, Q_HK, Q_HB, Q_HI0_e5, Q_HO589, Q_HI0_e8, Q_HO594, Q_HI0_e9, Q_X10_⟩ hb_ hon hoff
      refine ⟨_, rfl, fun K hK => ?_⟩
      have e16 : a.tmps[16]? = some (.pointer (some ⟨g, 0, none⟩)) := by rw [ha]; exact (putSel_off rfl).trans rfl
      have e17 : a.tmps[17]? = some (v588) := by rw [ha]; exact putSel_on (e := (7, 17, v588)) 3 rfl rfl (hon 7 (by kernel_rfl)) rfl
      replace ha := Aside0.mk ha
      have BK580 := Aside0.mk Q_BK580
      have HK := Aside0.mk Q_HK
      have HB := Aside0.mk Q_HB
      have HI0 := Aside0.mk (Q_HI0_e5 (hon 5 (by kernel_rfl)) hb_)
      have HO589 := Aside0.mk (Q_HO589 (hon 7 (by kernel_rfl)))
      obtain ⟨Ao36, co36, eo36⟩ := Kd.R_slice HO589.out
      (first | subst eo36 | (injection eo36 with f1_ f2_ f3_; have f4_ := f1_.symm; have f5_ := f3_.symm; clear f1_ f2_ f3_; subst f4_; subst f5_))
      refine goes_ Try.func99 (by kernel_rfl) rfl #[.pointer (some ⟨g, 0, none⟩), .slice Ao36 y587.length co36] (by rfl) rfl rfl (by first | (simp only [List.map_toArray, List.map_cons, List.map_nil, Act.eval, Array.getD_eq_getD_getElem?, Option.getD_some, e16, e17]; done) | (simp only [List.map_toArray, List.map_cons, List.map_nil, Act.eval, Array.getD_eq_getD_getElem?, Option.getD_some, e16, e17]; rfl)) ?_
      with_reducible refine (spec_l30Rd_one.calls k g s0_0 t586 _ _ y587 t590 t591 w0 _ ?side1 ?side2 ?side3 ?side4 ?side5 A6.out).mono ?_
      (case side1 => repeat (first | (with_reducible first | exact HI0.out | apply IsS106.alloc | apply IsS106.drewN | apply IsS106.drew | apply IsS106.set_1 | refine IsS106.far ?_ NB0_580.out _) | exact HI0.out))
      (case side2 => repeat (first | (with_reducible first | exact HB.out | apply below_alloc | apply pw_below_drewN | apply below_drew1 | refine below_set ?_ (IsS106.ge HI0.out) | refine below_set ?_ GE580.out) | exact HB.out))
      (case side3 => exact nc_ (Kd.R_reads' HO589.out).2.2)
      (case side4 => exact (Kd.R_reads' HO589.out).2.1)
      (case side5 => exact far_slice (IsS106.own_ne HI0.out HO589.out (by decide)))
      rintro e w37 ⟨rfl, hi, hb, hk⟩
      refine ⟨_, rfl, ?_⟩
      have n0_ := Aside0.mk (KeepBut.blk hk (g' := gb580) (o := .cells #[.int .i64 a1_0, .slice A1_1 l1_1.length c1_1] 29 (0, 0)) (nb_ BK580.out) NB580_0.out (by simp))
      have n1_ := Aside0.mk (Kd.R_mono (Kd.R_keep (IsS106.apart (show IsS106 w0 _ g s0_0 t586 from ni106_82 HI0.out) (nr_ HO589.out) (by decide)) hk (fun _ h => h.2)) (fun _ h => h.1))
      have n2_ := Aside0.mk (KeepBut.trans (nk_ HK.out) hk (.inl rfl))
      have n3_ := Aside0.mk (hb)
      have n4_ := Aside0.mk (hi)
      clear BK580
      clear HO589
      clear HK
      clear HB
      clear HI0
      have BK580 := n0_
      have HO589 := n1_
      have HK := n2_
      have HB := n3_
      have HI0 := n4_
      clear n0_ n1_ n2_ n3_ n4_
      (try clear hb)
      (try clear hb2)
      (try clear hk)
      (try clear hi)
      refine hK.out _ _ ⟨.slice Ao36 y587.length co36, v593, m10_, (by rw [ha.out]; exact putSel_upk 4 hb_ rfl rfl rfl), (nb_ BK580.out), fun h0_ => absurd ((hon 5 (by kernel_rfl)).symm.trans h0_) (by decide), (nk_ HK.out), (ng106_82 HB.out), fun _ h1_ => absurd ((up_self b 8).symm.trans h1_) (by decide), fun _ => (nr_ HO589.out), fun _ _ => (ni106_82 HI0.out), fun h0_ => absurd ((hoff 9 (by kernel_rfl)).symm.trans h0_) (by decide), fun h0_ => absurd ((hoff 9 (by kernel_rfl)).symm.trans h0_) (by decide), fun h0_ => absurd ((hoff 10 (by kernel_rfl)).symm.trans h0_) (by decide)⟩
     refine steps_cons ?_ ?_
     ·rintro b a w' ⟨v588, v593, m10_, ha, Q_BK580, Q_HI0, Q_HK, Q_HB, Q_HI0_e5, Q_HO589, Q_HI0_e8, Q_HO594, Q_HI0_e9, Q_X10_⟩ hb_ hon hoff
      refine ⟨_, rfl, fun K hK => ?_⟩
      have e10 : a.tmps[10]? = some (.pointer (some ⟨g, 0, none⟩)) := by rw [ha]; exact (putSel_off rfl).trans rfl
      have e11 : a.tmps[11]? = some (.agg #[.int .i64 a1_0, .slice A1_1 l1_1.length c1_1]) := by rw [ha]; exact putSel_on (e := (1, 11, .agg #[.int .i64 a1_0, .slice A1_1 l1_1.length c1_1])) 0 rfl rfl (hon 1 (by kernel_rfl)) rfl
      have e15 : a.tmps[15]? = some (.int .i64 t585) := by rw [ha]; exact putSel_on (e := (5, 15, .int .i64 t585)) 2 rfl rfl (hon 5 (by kernel_rfl)) rfl
      have e18 : a.tmps[18]? = some (.int .i64 t590) := by rw [ha]; exact putSel_on (e := (8, 18, .int .i64 t590)) 4 rfl rfl (hon 8 (by kernel_rfl)) rfl
      replace ha := Aside0.mk ha
      have BK580 := Aside0.mk Q_BK580
      have HK := Aside0.mk Q_HK
      have HB := Aside0.mk Q_HB
      have HO589 := Aside0.mk (Q_HO589 (hon 7 (by kernel_rfl)))
      have HI0 := Aside0.mk (Q_HI0_e8 (hon 8 (by kernel_rfl)) hb_)
      refine goes_ Try.func89 (by kernel_rfl) rfl #[.pointer (some ⟨g, 0, none⟩), .agg #[.int .i64 a1_0, .slice A1_1 l1_1.length c1_1], .int .i64 t585, .int .i64 t590] (by rfl) rfl rfl (by first | (simp only [List.map_toArray, List.map_cons, List.map_nil, Act.eval, Array.getD_eq_getD_getElem?, Option.getD_some, e10, e11, e15, e18]; done) | (simp only [List.map_toArray, List.map_cons, List.map_nil, Act.eval, Array.getD_eq_getD_getElem?, Option.getD_some, e10, e11, e15, e18]; rfl)) ?_
      with_reducible refine (spec_l30Walk.calls k g s0_0 t591 a1_0 _ _ l1_1 t585 t590 t592 t595 w0 _ ?side1 ?side2 ?side3 ?side4 A7.out).mono ?_
      (case side1 => repeat (first | (with_reducible first | exact HI0.out | apply IsS106.alloc | apply IsS106.drewN | apply IsS106.drew | apply IsS106.set_1 | refine IsS106.far ?_ NB0_580.out _) | exact HI0.out))
      (case side2 => repeat (first | (with_reducible first | exact HB.out | apply below_alloc | apply pw_below_drewN | apply below_drew1 | refine below_set ?_ (IsS106.ge HI0.out) | refine below_set ?_ GE580.out) | exact HB.out))
      (case side3 => exact Kd.C_foot_step HR1_1.out (nk_ HK.out))
      (case side4 => exact HC1_1.out)
      rintro e w38 ⟨v593, rfl, ho0, hi, hb, hk⟩
      refine ⟨_, rfl, ?_⟩
      have n0_ := Aside0.mk (KeepBut.blk hk (g' := gb580) (o := .cells #[.int .i64 a1_0, .slice A1_1 l1_1.length c1_1] 29 (0, 0)) (nb_ BK580.out) NB580_0.out (by simp))
      have n1_ := Aside0.mk (Kd.R_mono (Kd.R_told (Kd.R_oldK (IsS106.apart (show IsS106 w0 _ g s0_0 t591 from ni106_82 HI0.out) (nr_ HO589.out) (by decide)) hk) (Kd.R_base ho0)) (fun _ h_ => h_.1))
      have n2_ := Aside0.mk (Kd.R_lower (Kd.R_new' ho0 (Kd.R_lt (nr_ HO589.out))) (keep_size (w := w) (g := g) (row := none) (nk_ HK.out)))
      have n3_ := Aside0.mk (KeepBut.trans (nk_ HK.out) hk (.inl rfl))
      have n4_ := Aside0.mk (hb)
      have n5_ := Aside0.mk (hi)
      clear BK580
      clear HO589
      clear HK
      clear HB
      clear HI0
      have BK580 := n0_
      have HO589 := n1_
      have HO594 := n2_
      have HK := n3_
      have HB := n4_
      have HI0 := n5_
      clear n0_ n1_ n2_ n3_ n4_ n5_
      (try clear hb)
      (try clear hb2)
      (try clear hk)
      (try clear hi)
      (try clear ho0)
      refine hK.out _ _ ⟨v588, v593, m10_, (by rw [ha.out]; exact putSel_upk 5 hb_ rfl rfl rfl), (nb_ BK580.out), fun h0_ => absurd ((hon 5 (by kernel_rfl)).symm.trans h0_) (by decide), (nk_ HK.out), (ng106_82 HB.out), fun _ h1_ => absurd ((hon 8 (by kernel_rfl)).symm.trans h1_) (by decide), fun _ => (by (with_reducible repeat (first | apply Kd.R_alloc | apply Kd.R_drewN | apply Kd.R_drew)); exact Kd.R_mono HO589.out (fun _ hk => by first | exact hk.2 | trivial | simp_all)), fun _ h1_ => absurd ((up_self b 9).symm.trans h1_) (by decide), fun _ => (by (with_reducible repeat (first | apply Kd.R_alloc | apply Kd.R_drewN | apply Kd.R_drew)); exact Kd.R_mono HO594.out (fun _ hk => by first | exact hk.2 | trivial | simp_all)), fun _ => (ni106_82 HI0.out), fun h0_ => absurd ((hoff 10 (by kernel_rfl)).symm.trans h0_) (by decide)⟩
     refine steps_cons ?_ ?_
     ·rintro b a w' ⟨v588, v593, m10_, ha, Q_BK580, Q_HI0, Q_HK, Q_HB, Q_HI0_e5, Q_HO589, Q_HI0_e8, Q_HO594, Q_HI0_e9, Q_X10_⟩ hb_ hon hoff
      refine ⟨_, rfl, fun K hK => ?_⟩
      have e19 : a.tmps[19]? = some (v593) := by rw [ha]; exact putSel_on (e := (9, 19, v593)) 5 rfl rfl (hon 9 (by kernel_rfl)) rfl
      replace ha := Aside0.mk ha
      have BK580 := Aside0.mk Q_BK580
      have HK := Aside0.mk Q_HK
      have HB := Aside0.mk Q_HB
      have HO589 := Aside0.mk (Q_HO589 (hon 7 (by kernel_rfl)))
      have HO594 := Aside0.mk (Q_HO594 (hon 9 (by kernel_rfl)))
      have HI0 := Aside0.mk (Q_HI0_e9 (hon 9 (by kernel_rfl)))
      refine value_ (w1 := w') (v := v593) (by rfl) rfl ?_ ?_
      ·go_simp
       (try simp only [i64_w])
       try rfl
      refine hK.out _ _ ⟨v588, v593, (v593), (by rw [ha.out]; exact putSel_upk 6 hb_ rfl rfl rfl), Q_BK580, fun h0_ => absurd ((hon 5 (by kernel_rfl)).symm.trans h0_) (by decide), Q_HK, Q_HB, fun _ h1_ => absurd ((hon 8 (by kernel_rfl)).symm.trans h1_) (by decide), Q_HO589, fun _ h1_ => absurd ((hon 9 (by kernel_rfl)).symm.trans h1_) (by decide), Q_HO594, Q_HI0_e9, fun _ => rfl⟩
     exact steps_nil
    rintro b a w38 hall ⟨v588, v593, m10_, ha, Q_BK580, Q_HI0, Q_HK, Q_HB, Q_HI0_e5, Q_HO589, Q_HI0_e8, Q_HO594, Q_HI0_e9, Q_X10_⟩
    clear BK580 HB HI0 HK
    have hb1_ := hall 1 (by kernel_rfl)
    have hb4_ := hall 4 (by kernel_rfl)
    have hb5_ := hall 5 (by kernel_rfl)
    have hb7_ := hall 7 (by kernel_rfl)
    have hb8_ := hall 8 (by kernel_rfl)
    have hb9_ := hall 9 (by kernel_rfl)
    have hb10_ := hall 10 (by kernel_rfl)
    subst ha
    obtain rfl := (Q_X10_ hb10_).symm
    simp only [putSel, hb1_, hb4_, hb5_, hb7_, hb8_, hb9_, hb10_, if_true, Act.put, List.setIfInBounds_toArray, List.set_cons_zero, List.set_cons_succ]
    have BK580 := Aside0.mk Q_BK580
    clear Q_BK580
    clear Q_HI0
    have HK := Aside0.mk Q_HK
    clear Q_HK
    have HB := Aside0.mk Q_HB
    clear Q_HB
    clear Q_HI0_e5
    have HO589 := Aside0.mk (Q_HO589 hb7_)
    clear Q_HO589
    clear Q_HI0_e8
    have HO594 := Aside0.mk (Q_HO594 hb9_)
    clear Q_HO594
    have HI0 := Aside0.mk (Q_HI0_e9 hb9_)
    clear Q_HI0_e9
    try replace HO589 := Aside0.mk (Go.Proofs.YtpjmkghmjpbldaaX.Kd.R_apart_back (fun _ _ _ _ _ _ h_ => h_) HO589.out HO594.out (fun k_ hk => by first | exact hk | exact hk | simp_all))
    clear hall hb1_ hb4_ hb5_ hb7_ hb8_ hb9_ hb10_
    try go_wp2_with (first | ((with_reducible refine gate_callee (f := 88) rfl ?_); refine goesL_ (some 21) rfl rfl Try.func88 (by kernel_rfl) rfl #[.pointer (some ⟨g, 0, none⟩), .int .i64 10] rfl na_ ?_; (with_reducible refine (spec_l30Rd_pick.calls k g s0_0 t595 10 t596 t597 w0 _ ?side1 ?side2 A8.out).mono ?_); (case side1 => repeat (first | (with_reducible first | exact HI0.out | apply IsS106.alloc | apply IsS106.drewN | apply IsS106.drew | apply IsS106.set_1 | refine IsS106.far ?_ NB0_580.out _) | exact HI0.out)); (case side2 => repeat (first | (with_reducible first | exact HB.out | apply below_alloc | apply pw_below_drewN | apply below_drew1 | refine below_set ?_ (IsS106.ge HI0.out) | refine below_set ?_ GE580.out) | exact HB.out)); rintro e w39 ⟨rfl, hi, hb, hk⟩; refine ⟨_, rfl, ?_⟩; have n0_ := Aside0.mk (KeepBut.blk hk (g' := gb580) (o := .cells #[.int .i64 a1_0, .slice A1_1 l1_1.length c1_1] 29 (0, 0)) (nb_ BK580.out) NB580_0.out (by simp)); have n1_ := Aside0.mk (Kd.R_mono (Kd.R_keep (IsS106.apart (show IsS106 w0 _ g s0_0 t595 from ni106_82 HI0.out) (nr_ HO589.out) (by decide)) hk (fun _ h => h.2)) (fun _ h => h.1)); have n2_ := Aside0.mk (Kd.R_mono (Kd.R_keep (IsS106.apart (show IsS106 w0 _ g s0_0 t595 from ni106_82 HI0.out) (nr_ HO594.out) (by decide)) hk (fun _ h => h.2)) (fun _ h => h.1)); have n3_ := Aside0.mk (KeepBut.trans (nk_ HK.out) hk (.inl rfl)); have n4_ := Aside0.mk (hb); have n5_ := Aside0.mk (hi); clear BK580; clear HO589; clear HO594; clear HK; clear HB; clear HI0; have BK580 := n0_; have HO589 := n1_; have HO594 := n2_; have HK := n3_; have HB := n4_; have HI0 := n5_; clear n0_ n1_ n2_ n3_ n4_ n5_; (try clear hb); (try clear hb2); (try clear hk); (try clear hi)))
    go_ret
    exact ⟨_, by first | rfl | (simp [errW_none, errW_some] <;> rfl) | (simp [*, errW_none, errW_some] <;> rfl), by (with_reducible repeat (first | apply Kd.R_alloc | apply Kd.R_drewN | apply Kd.R_drew)); exact Kd.R_mono HO594.out (fun _ hk => trivial), ni106_82 HI0.out, by repeat (first | (with_reducible first | exact HB.out | apply below_alloc | apply pw_below_drewN | apply below_drew1 | refine below_set ?_ (IsS106.ge HI0.out) | refine below_set ?_ GE580.out) | exact HB.out), by repeat (first | (with_reducible first | exact HK.out | apply KeepBut.set_ | apply keep_drewN | apply keep_drew | apply keep_alloc | refine keep_far ?_ GW580.out _) | exact HK.out)⟩
  ·replace c4 := Bool.eq_false_iff.mpr c4
   subst c4
   have H1 : (some ((([0] : List Int)), s0_1)) = some (r1, r2) := by rw [if_neg (show ¬ (false = true) by decide)] at H; exact H
   clear H
   have H := H1
   clear H1
   obtain ⟨y582, hy582⟩ : ∃ y_ : List Int, y_ = (([0] : List Int)) := ⟨_, rfl⟩
   replace H : (some (y582, s0_1)) = some (r1, r2) := by first | (rw [hy582]; with_reducible exact H) | (have H2_ := (Option.bind_some _ _).symm.trans H; rw [hy582]; with_reducible exact H2_) | (have H2_ := (Option.bind_some _ _).symm.trans H; with_reducible exact H2_) | with_reducible exact H | (rw [hy582]; exact H) | exact H
   have Ny582 := Aside0.mk hy582
   clear hy582
   simp only [Option.some.injEq, Prod.mk.injEq] at H
   obtain ⟨rfl, rfl⟩ := H
   go_enter Try.func82, Try.ntmps82
   go_wp2_with (first | ((with_reducible refine gate_dst (N := 3) rfl ?_); refine box_event ?hg (N := 3) ?hd (cs := #[.int .i64 a1_0, .slice A1_1 l1_1.length c1_1]) (t := 29) ?hr ?_; (case hd => rfl); (case hg => rfl); (case hr => first | (go_simp; done) | (go_simp; rfl)); intro gb580 hg w40 hbox hb; have n0_ := Aside0.mk (IsS106.below (ni106_82 HI0.out) hb); have n1_ := Aside0.mk (KeepBut.trans (nk_ HK.out) (KeepBut.of_below hb g none) (.inl rfl)); have n2_ := Aside0.mk (below_step (ng106_82 HB.out) hb); have n3_ := Aside0.mk (hbox); have n4_ := Aside0.mk ((by rw [hg]; exact (keep_size (w := w) (g := g) (row := none) (nk_ HK.out)) : w.heap.size ≤ gb580)); have n5_ := Aside0.mk ((Nat.le_trans HW0.out (by rw [hg]; exact (keep_size (w := w) (g := g) (row := none) (nk_ HK.out)) : w.heap.size ≤ gb580) : w0.heap.size ≤ gb580)); have n6_ := Aside0.mk ((by rw [hg]; exact Nat.ne_of_lt (IsS106.lt (show IsS106 w0 _ g s0_0 s0_1 from ni106_82 HI0.out)) : g ≠ gb580)); have n7_ := Aside0.mk ((by rw [hg]; exact Nat.ne_of_gt (IsS106.lt (show IsS106 w0 _ g s0_0 s0_1 from ni106_82 HI0.out)) : gb580 ≠ g)); clear HI0; clear HK; clear HB; have HI0 := n0_; have HK := n1_; have HB := n2_; have BK580 := n3_; have GW580 := n4_; have GE580 := n5_; have NB0_580 := n6_; have NB580_0 := n7_; clear n0_ n1_ n2_ n3_ n4_ n5_ n6_ n7_; clear hb hbox hg; have hnb41 := NB580_0.out; have hnc41 := NB0_580.out; have hcz42_0 : w40.cell? ⟨gb580, 0, none⟩ = some (.int .i64 a1_0) := (blk_cell BK580.out 0).trans rfl; have hcz42_1 : w40.cell? ⟨gb580, 1, none⟩ = some (.slice A1_1 l1_1.length c1_1) := (blk_cell BK580.out 1).trans rfl; have hfz42_0 := blk_frozen BK580.out 0; have hfz42_1 := blk_frozen BK580.out 1) | ((with_reducible refine gate_callee (f := 60) rfl ?_); refine goesL_ (some 7) rfl rfl Try.func60 (by kernel_rfl) rfl #[.agg #[.int .i64 a1_0, .slice A1_1 l1_1.length c1_1]] rfl na_ ?_; (with_reducible refine (spec_l1Ok.calls k a1_0 _ _ l1_1 false _ ?side1 ?side2 A3.out).mono ?_); (case side1 => exact Kd.C_foot_now HR1_1.out (nk_ HK.out)); (case side2 => exact HC1_1.out); rintro e w43 ⟨rfl, hb⟩; refine ⟨_, rfl, ?_⟩; have n0_ := Aside0.mk (IsS106.below (ni106_82 HI0.out) hb); have n1_ := Aside0.mk (blk_below (g := gb580) (o := .cells #[.int .i64 a1_0, .slice A1_1 l1_1.length c1_1] 29 (0, 0)) (nb_ BK580.out) hb); have n2_ := Aside0.mk (KeepBut.trans (nk_ HK.out) (KeepBut.of_below hb g none) (.inl rfl)); have n3_ := Aside0.mk (below_step (ng106_82 HB.out) hb); clear HI0; clear BK580; clear HK; clear HB; have HI0 := n0_; have BK580 := n1_; have HK := n2_; have HB := n3_; clear n0_ n1_ n2_ n3_; (try clear hb); (try clear hb2); (try clear hk); (try clear hi)) | ((with_reducible refine gate_dst (N := 9) rfl ?_); refine Kd.R_lit (Kd.int .i64) _ 3 ?hg (N := 9) ?hd (xs := ([0] : List Int)) (inner := [.int .i64 0]) (ok := fun _ => True) (okp := fun _ => True) ?hr ?hp (fun _ hk => hk) trivial (Below.refl _ _) (Nat.le_refl _) (by simp) ?_; (case hd => rfl); (case hg => rfl); (case hr => first | (go_simp; done) | (go_simp; rfl)); (case hp => exact (Reps.one (show Kd.M (Kd.int .i64) _ _ _ 0 [.int .i64 0] from rfl) (Reps.none _ _))); intro v583 w44 ho45 hb hg_ hnew_; clear hg_ hnew_; (first | rw [← Ny582.out] at ho45 | (simp only [Int.reduceToNat] at ho45; rw [← Ny582.out] at ho45)); have n0_ := Aside0.mk (Kd.R_lower ho45 (keep_size (w := w) (g := g) (row := none) (nk_ HK.out))); have n1_ := Aside0.mk (IsS106.below (ni106_82 HI0.out) hb); have n2_ := Aside0.mk (blk_below (g := gb580) (o := .cells #[.int .i64 a1_0, .slice A1_1 l1_1.length c1_1] 29 (0, 0)) (nb_ BK580.out) hb); have n3_ := Aside0.mk (KeepBut.trans (nk_ HK.out) (KeepBut.of_below hb g none) (.inl rfl)); have n4_ := Aside0.mk (below_step (ng106_82 HB.out) hb); clear HI0; clear BK580; clear HK; clear HB; have HO584 := n0_; have HI0 := n1_; have BK580 := n2_; have HK := n3_; have HB := n4_; clear n0_ n1_ n2_ n3_ n4_; clear hb ho45))
   go_ret
   exact ⟨_, by first | rfl | (simp [errW_none, errW_some] <;> rfl) | (simp [*, errW_none, errW_some] <;> rfl), by (with_reducible repeat (first | apply Kd.R_alloc | apply Kd.R_drewN | apply Kd.R_drew)); exact HO584.out, ni106_82 HI0.out, by repeat (first | (with_reducible first | exact HB.out | apply below_alloc | apply pw_below_drewN | apply below_drew1 | refine below_set ?_ (IsS106.ge HI0.out) | refine below_set ?_ GE580.out) | exact HB.out), by repeat (first | (with_reducible first | exact HK.out | apply KeepBut.set_ | apply keep_drewN | apply keep_drew | apply keep_alloc | refine keep_far ?_ GW580.out _) | exact HK.out)⟩

end Go.Proofs.Ytpjmkghmjpbldaa.Print
