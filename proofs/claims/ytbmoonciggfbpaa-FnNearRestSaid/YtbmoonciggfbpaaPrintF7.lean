-- Made by this session's own program (wip/patch_print.py, over the kit's print). Lean checks it.
import Derived.Test.YtbmoonciggfbpaaPrint0
import Derived.Test.YtbmoonciggfbpaaPrintB
import Derived.Test.YtbmoonciggfbpaaPrintF28
import Derived.Test.YtbmoonciggfbpaaPrintF29
import Derived.Test.YtbmoonciggfbpaaPrintF30
namespace Go.Proofs.Ytbmoonciggfbpaa.Print
open Go.RowKit Go.Proofs.YtbmoonciggfbpaaW.PrintWords Go.Proofs.YtbmoonciggfbpaaW.PrintLast Go.Proofs.YtbmoonciggfbpaaW.PrintMore Go.Proofs.YtbmoonciggfbpaaX
attribute [local go_sem] max2_int min2_int max_two min_two max_three min_three max_four min_four   -- for this text's walks alone
set_option linter.unusedVariables false
set_option linter.unusedSimpArgs false

abbrev z7_0 : Array Bool := #[false, false, false, false, false, false, false, false, false, false, false, false, false, false, false, false]
abbrev z7_1 : Array Bool := #[false, true, false, false, false, false, false, false, false, false, false, false, false, false, false, false]
abbrev z7_2 : Array Bool := #[false, true, false, true, false, false, false, false, false, false, false, false, false, false, false, false]
abbrev z7_3 : Array Bool := #[false, true, false, true, true, false, false, false, false, false, false, false, false, false, false, false]
abbrev z7_4 : Array Bool := #[false, true, false, true, true, false, false, false, false, true, false, false, false, false, false, false]
abbrev z7_5 : Array Bool := #[true, true, false, true, true, false, false, false, false, true, false, false, false, false, false, false]
abbrev z7_6 : Array Bool := #[true, true, true, true, true, false, false, false, false, true, false, false, false, false, false, false]
abbrev z7_7 : Array Bool := #[true, true, true, true, true, true, false, false, false, true, false, false, false, false, false, false]
abbrev z7_8 : Array Bool := #[true, true, true, true, true, true, true, false, false, true, false, false, false, false, false, false]
abbrev z7_9 : Array Bool := #[true, true, true, true, true, true, true, true, false, true, false, false, false, false, false, false]
abbrev z7_10 : Array Bool := #[true, true, true, true, true, true, true, true, true, true, false, false, false, false, false, false]
abbrev z7_11 : Array Bool := #[true, true, true, true, true, true, true, true, true, true, true, false, false, false, false, false]
abbrev z7_12 : Array Bool := #[true, true, true, true, true, true, true, true, true, true, true, true, false, false, false, false]
abbrev z7_13 : Array Bool := #[true, true, true, true, true, true, true, true, true, true, true, true, true, false, false, false]
abbrev z7_14 : Array Bool := #[true, true, true, true, true, true, true, true, true, true, true, true, true, true, false, false]
abbrev z7_15 : Array Bool := #[true, true, true, true, true, true, true, true, true, true, true, true, true, true, true, false]
abbrev z7_16 : Array Bool := #[true, true, true, true, true, true, true, true, true, true, true, true, true, true, true, true]
abbrev rR7 := @Kd.R_reads'
/-! ### laws_FnNearRest: function 7 -/
def laws_FnNearRest.j0 : Nat → Int → List Int → Bool → List Int → Bool → Bool → Int → List (S33) → Option (Bool)
  | 0, _, _, _, _, _, _, _, _ => none
  | k + 1, x5, x6, x7, x8, x9, x48, x604000, x604001 => if x48 = true then (if (x7 == x9) = true then ((laws_wkInts.f k x6 x8).bind fun t613 => (some t613)) else (some false)) else (if 0 < (x6.length : Int) then (if 0 ≤ (rd x6 0) then (if (rd x6 0) < (x604001.length : Int) then ((impl_NearWalk.f k x604000 x604001 ((rd_T33 x604001 (rd x6 0)).f1) x5).bind fun bt616 => (if bt616.2 = true then (if 1 ≤ (x6.length : Int) then ((laws_wkInts.f k bt616.1 (x6.drop 1)).bind fun t624 => (some t624)) else (none)) else (some false))) else (none)) else (none)) else (none))
def laws_FnNearRest.f (k : Nat) (l0 : List Int) : Option (Bool) := if (l0.length : Int) > 1048576 then (some true) else ((spec_DrawNearWalk.f k l0).bind fun bt597 => ((impl_NearWalk.f k bt597.1 bt597.2.1 bt597.2.2.1 bt597.2.2.2).bind fun bt604 => ((spec_NearWalk.f k bt597.1 bt597.2.1 bt597.2.2.1 bt597.2.2.2).bind fun bt608 => (if (bt604.2 != bt608.2) = true then (laws_FnNearRest.j0 k bt597.2.2.2 bt604.1 bt604.2 bt608.1 bt608.2 true bt597.1 bt597.2.1) else ((laws_wkInts.f k bt604.1 bt608.1).bind fun t612 => (if t612 = true then (laws_FnNearRest.j0 k bt597.2.2.2 bt604.1 bt604.2 bt608.1 bt608.2 ((bt604.1.length : Int) == 0) bt597.1 bt597.2.1) else (laws_FnNearRest.j0 k bt597.2.2.2 bt604.1 bt604.2 bt608.1 bt608.2 true bt597.1 bt597.2.1)))))))
theorem laws_FnNearRest.mono_l : ∀ k, (∀ y0 y1 y2 y3 y4 y5 y6 y7, LeO (laws_FnNearRest.j0 k y0 y1 y2 y3 y4 y5 y6 y7) (laws_FnNearRest.j0 (k + 1) y0 y1 y2 y3 y4 y5 y6 y7))
  | 0 => fun _ _ _ _ _ _ _ _ r h => by simp [laws_FnNearRest.j0] at h
  | k + 1 => by
    have ih0 := laws_FnNearRest.mono_l k
    · intro y0 y1 y2 y3 y4 y5 y6 y7
      unfold laws_FnNearRest.j0
      repeat' first | (with_reducible first | exact ih0 _ _ _ _ _ _ _ _ | exact impl_NearWalk.mono _ _ _ _ _ | exact laws_wkInts.mono _ _ _ | exact spec_DrawNearWalk.mono _ _ | exact spec_NearWalk.mono _ _ _ _ _ | exact LeO.refl _ | exact LeO.none _ | refine LeO.ite ?_ ?_ | refine LeO.bind ?_ (fun _ => ?_)) | exact ih0 _ _ _ _ _ _ _ _ | exact impl_NearWalk.mono _ _ _ _ _ | exact laws_wkInts.mono _ _ _ | exact spec_DrawNearWalk.mono _ _ | exact spec_NearWalk.mono _ _ _ _ _ | exact LeO.none _ | refine LeO.ite ?_ ?_ | refine LeO.bind ?_ (fun _ => ?_)
theorem laws_FnNearRest.mono : ∀ a0 k, LeO (laws_FnNearRest.f k a0) (laws_FnNearRest.f (k + 1) a0) := by
  intro a0 k
  have ih0 := laws_FnNearRest.mono_l k
  unfold laws_FnNearRest.f
  repeat' first | (with_reducible first | exact ih0 _ _ _ _ _ _ _ _ | exact impl_NearWalk.mono _ _ _ _ _ | exact laws_wkInts.mono _ _ _ | exact spec_DrawNearWalk.mono _ _ | exact spec_NearWalk.mono _ _ _ _ _ | exact LeO.refl _ | exact LeO.none _ | refine LeO.ite ?_ ?_ | refine LeO.bind ?_ (fun _ => ?_)) | exact ih0 _ _ _ _ _ _ _ _ | exact impl_NearWalk.mono _ _ _ _ _ | exact laws_wkInts.mono _ _ _ | exact spec_DrawNearWalk.mono _ _ | exact spec_NearWalk.mono _ _ _ _ _ | exact LeO.none _ | refine LeO.ite ?_ ?_ | refine LeO.bind ?_ (fun _ => ?_)
def laws_FnNearRest.T8 : Bool × List (List Nat × List Nat) := (true, [([], []), ([], []), ([1], [1]), ([], []), ([3], [3]), ([4], [4]), ([2, 5], [2, 5]), ([6], [6]), ([7], [7]), ([], []), ([0, 8, 9], [0, 8, 9]), ([10], [10]), ([11], [11]), ([11], [11]), ([12, 10, 0, 1, 2, 3, 4, 5, 6, 7, 8, 9, 10, 11, 12], [12]), ([13, 14, 0, 1, 2, 3, 4, 5, 6, 7, 8, 9, 10, 11, 12, 13, 14], [13])])
def laws_FnNearRest.B8 : List Nat := [0, 0, 2, 0, 8, 24, 62, 126, 254, 0, 1023, 2047, 4095, 4095, 8191, 32767]
theorem laws_FnNearRest.tab8 : rtab .any (opsOf Try.f7 8) = laws_FnNearRest.T8 := by kernel_rfl
theorem laws_FnNearRest.bits8 : waitsOk laws_FnNearRest.T8.2 laws_FnNearRest.B8 = true := by kernel_rfl
set_option maxHeartbeats 200000000 in
set_option maxRecDepth 100000 in
theorem laws_FnNearRest.calls (k : Nat) (A0 : Option Addr) (c0 : Nat) (l0 : List Int) (r : Bool) (w : World) (hr0 : Kd.C (Kd.int .u8) w A0 l0.length l0) (hc0 : l0.length ≤ c0) (h : laws_FnNearRest.f k l0 = some r) :
    Calls Try.prog 7 #[.slice A0 l0.length c0] w fun e w' => e = .returned (.bool r) ∧ Below w.heap.size w w' := by
  have hu25 := Try.underlying25
  have HR0 := Aside0.mk hr0
  have HC0 := Aside0.mk hc0
  clear hr0 hc0
  have HB := Aside0.mk (Below.refl w.heap.size w)
  have H : (if (l0.length : Int) > 1048576 then (some true) else ((spec_DrawNearWalk.f k l0).bind fun bt597 => ((impl_NearWalk.f k bt597.1 bt597.2.1 bt597.2.2.1 bt597.2.2.2).bind fun bt604 => ((spec_NearWalk.f k bt597.1 bt597.2.1 bt597.2.2.1 bt597.2.2.2).bind fun bt608 => (if (bt604.2 != bt608.2) = true then (laws_FnNearRest.j0 k bt597.2.2.2 bt604.1 bt604.2 bt608.1 bt608.2 true bt597.1 bt597.2.1) else ((laws_wkInts.f k bt604.1 bt608.1).bind fun t612 => (if t612 = true then (laws_FnNearRest.j0 k bt597.2.2.2 bt604.1 bt604.2 bt608.1 bt608.2 ((bt604.1.length : Int) == 0) bt597.1 bt597.2.1) else (laws_FnNearRest.j0 k bt597.2.2.2 bt604.1 bt604.2 bt608.1 bt608.2 true bt597.1 bt597.2.1)))))))) = some r := h
  clear h
  by_cases c2 : (l0.length : Int) > 1048576
  ·rw [if_pos c2] at H
   have c2b0 : decide (1048576 < (l0.length : Int)) = true := decide_eq_true c2
   have c2b1 : decide (1048576 < l0.length) = true := decide_eq_true (by omega)
   clear c2
   obtain rfl := Option.some.inj H
   go_enter Try.func7, Try.ntmps7
   go_wp2
   go_ret
   exact ⟨nw_, ne_ HB.out⟩
  rw [if_neg c2] at H
  have c2b0 : decide (1048576 < (l0.length : Int)) = false := decide_eq_false c2
  have c2b1 : decide (1048576 < l0.length) = false := decide_eq_false (by omega)
  clear c2
  replace H := Option.bind_eq_some_iff.mp H
  obtain ⟨⟨t597, t598, t601, t602⟩, A30, H⟩ := H
  replace H : ((impl_NearWalk.f k t597 t598 t601 t602).bind fun bt604 => ((spec_NearWalk.f k t597 t598 t601 t602).bind fun bt608 => (if (bt604.2 != bt608.2) = true then (laws_FnNearRest.j0 k t602 bt604.1 bt604.2 bt608.1 bt608.2 true t597 t598) else ((laws_wkInts.f k bt604.1 bt608.1).bind fun t612 => (if t612 = true then (laws_FnNearRest.j0 k t602 bt604.1 bt604.2 bt608.1 bt608.2 ((bt604.1.length : Int) == 0) t597 t598) else (laws_FnNearRest.j0 k t602 bt604.1 bt604.2 bt608.1 bt608.2 true t597 t598)))))) = some r := H
  have A3 := Aside0.mk A30
  clear A30
  replace H := Option.bind_eq_some_iff.mp H
  obtain ⟨⟨t604, t607⟩, A40, H⟩ := H
  replace H : ((spec_NearWalk.f k t597 t598 t601 t602).bind fun bt608 => (if (t607 != bt608.2) = true then (laws_FnNearRest.j0 k t602 t604 t607 bt608.1 bt608.2 true t597 t598) else ((laws_wkInts.f k t604 bt608.1).bind fun t612 => (if t612 = true then (laws_FnNearRest.j0 k t602 t604 t607 bt608.1 bt608.2 ((t604.length : Int) == 0) t597 t598) else (laws_FnNearRest.j0 k t602 t604 t607 bt608.1 bt608.2 true t597 t598))))) = some r := H
  have A4 := Aside0.mk A40
  clear A40
  replace H := Option.bind_eq_some_iff.mp H
  obtain ⟨⟨t608, t611⟩, A50, H⟩ := H
  replace H : (if (t607 != t611) = true then (laws_FnNearRest.j0 k t602 t604 t607 t608 t611 true t597 t598) else ((laws_wkInts.f k t604 t608).bind fun t612 => (if t612 = true then (laws_FnNearRest.j0 k t602 t604 t607 t608 t611 ((t604.length : Int) == 0) t597 t598) else (laws_FnNearRest.j0 k t602 t604 t607 t608 t611 true t597 t598)))) = some r := H
  have A5 := Aside0.mk A50
  clear A50
  have HC6 := Aside0.mk H
  clear H
  go_enter Try.func7, Try.ntmps7
  go_upto_region 6 with (first | ((with_reducible refine gate_callee (f := 28) rfl ?_); refine gl_ (some 17) Try.func28 #[.slice A0 l0.length c0] ?_; (with_reducible refine (spec_DrawNearWalk.calls k _ _ l0 t597 t598 t601 t602 _ ?side1 ?side2 A3.out).mono ?_); (case side1 => repeat (first | exact HR0.out | (with_reducible refine Kd.C_alloc ?_ _) | (with_reducible refine Kd.C_drewN ?_ _) | (with_reducible refine Kd.C_drew ?_))); (case side2 => exact HC0.out); rintro e w7 ⟨v599, rfl, ho0, hb⟩; refine ⟨_, rfl, ?_⟩; have HO600 := Aside0.mk (Kd.R_lower ho0 (below_size (ne_ HB.out))); replace HB := kB_ HB hb; (try clear hb); (try clear hb2); (try clear hk); (try clear hi); (try clear ho0)) | ((with_reducible refine gate_dst (N := 3) rfl ?_); (try (refine gate_guard (by rfl) ?_; dsimp only)); refine bx_ 3 #[.int .i64 0, .slice none 0 0] 25 ?_; intro gb603 hg w8 hbox hb; have BK603 := Aside0.mk (hbox); have GW603 := Aside0.mk (zs_ hg (ne_ HB.out)); have GE603 := Aside0.mk (zs_ hg (ne_ HB.out)); replace HO600 := kR_ HO600 hb; replace HB := kB_ HB hb; clear hb hbox hg; obtain ⟨hcz9_0, hcz9_1, hfz9_0, hfz9_1⟩ := cz2_ BK603.out; obtain ⟨Ao10, co10, eo10⟩ := Kd.R_slice HO600.out; subst eo10) | ((with_reducible refine gate_callee (f := 29) rfl ?_); refine gl_ (some 25) Try.func29 #[.agg #[.int .i64 t597, .slice Ao10 t598.length co10], .int .i64 t601, .int .i64 t602] ?_; (with_reducible refine (impl_NearWalk.calls k t597 _ _ t598 t601 t602 t604 t607 _ ?side1 ?side2 A4.out).mono ?_); (case side1 => refine (rR7 (e := 33) (base := w.heap.size) (ok := fun k_ => True) (n := t598.length) (c := co10) ?_).2.2; exact (by (with_reducible repeat (first | apply Kd.R_alloc | apply Kd.R_drewN | apply Kd.R_drew)); exact (Kd.R_mono (rf2_ (Kd.R_types HO600.out BK603.out (by decide))) (fun _ h_ => h_.1)))); (case side2 => exact (rR7 HO600.out).2.1); rintro e w11 ⟨v605, rfl, ho0, hb⟩; refine ⟨_, rfl, ?_⟩; have HO606 := Aside0.mk (Kd.R_lower ho0 (below_size (ne_ HB.out))); replace HO600 := Aside0.mk (Kd.R_below (by (with_reducible repeat (first | apply Kd.R_alloc | apply Kd.R_drewN | apply Kd.R_drew)); exact (Kd.R_mono (rf2_ (Kd.R_types HO600.out BK603.out (by decide))) (fun _ h_ => h_.1))) hb); replace BK603 := Aside0.mk (blk_below (g := gb603) (o := .cells #[.int .i64 t597, .slice Ao10 t598.length co10] 25 (0, 0)) (np_ BK603.out) hb); replace HB := kB_ HB hb; (try clear hb); (try clear hb2); (try clear hk); (try clear hi); (try clear ho0); obtain ⟨hcz12_0, hcz12_1, hfz12_0, hfz12_1⟩ := cz2_ BK603.out) | ((with_reducible refine gate_callee (f := 30) rfl ?_); refine gl_ (some 32) Try.func30 #[.agg #[.int .i64 t597, .slice Ao10 t598.length co10], .int .i64 t601, .int .i64 t602] ?_; (with_reducible refine (spec_NearWalk.calls k t597 _ _ t598 t601 t602 t608 t611 _ ?side1 ?side2 A5.out).mono ?_); (case side1 => exact nc_ (rR7 HO600.out).2.2); (case side2 => exact (rR7 HO600.out).2.1); rintro e w13 ⟨v609, rfl, ho0, hb⟩; refine ⟨_, rfl, ?_⟩; have HO610 := Aside0.mk (Kd.R_lower (Kd.R_new' ho0 (Kd.R_lt (nr_ HO606.out))) (below_size (ne_ HB.out))); replace HO600 := kR_ HO600 hb; replace HO606 := Aside0.mk (Kd.R_elder' (nr_ HO606.out) (Kd.R_base ho0) hb); replace BK603 := kb_ BK603 hb; replace HB := kB_ HB hb; (try clear hb); (try clear hb2); (try clear hk); (try clear hi); (try clear ho0)))
  (try simp only [Act.put, List.setIfInBounds_toArray, List.set_cons_zero, List.set_cons_succ])
  go_cut [48] (fun v48 wc => ∃ (kq : Nat) (x48_5 : Bool), v48 = .bool x48_5 ∧ Aside0 (laws_FnNearRest.j0 kq t602 t604 t607 t608 t611 x48_5 t597 t598 = some r) ∧ Aside0 (kq ≤ k) ∧ Aside0 (Kd.R (Kd.int .i64) 3 wc w.heap.size (fun k_ => some k_ ≠ (v609 : Value).ownBlock) v605 t604) ∧ Aside0 (Kd.R (Kd.int .i64) 3 wc w.heap.size (fun k_ => some k_ ≠ (v605 : Value).ownBlock) v609 t608) ∧ Aside0 (Kd.R k33 33 wc w.heap.size (fun _ => True) (.slice Ao10 t598.length co10) t598) ∧ Aside0 (wc.heap[gb603]? = some (.cells #[.int .i64 t597, (.slice Ao10 t598.length co10)] 25 (0, 0))) ∧ Aside0 (Below w.heap.size w wc))
  case first =>
   have H := HC6.out
   clear HC6
   by_cases c14 : (t607 != t611) = true
   ·rw [if_pos c14] at H
    have c14b0 : (t607 != t611) = true := c14
    (try (have c14b1 : decide (t607 = t611) = false := by simpa using c14))
    (try (have c14b2 : (t607 == t611) = false := by simpa using c14))
    (try (have c14b3 : ¬ (t607 = t611) := by simpa using c14))
    clear c14
    (first | rw [c14b0] | (simp only [i64_w, i32_w]; rw [c14b0]) | skip)
    have H' := Aside0.mk H
    clear H
    go_wp2
    go_meet
    case rel => exact ⟨_, (true), ns_, H', ⟨by first | omega | exact Nat.le_refl _⟩, ⟨by (with_reducible repeat (first | apply Kd.R_alloc | apply Kd.R_drewN | apply Kd.R_drew)); exact Kd.R_mono HO606.out (fun _ hk => by first | exact hk.2 | trivial | simp_all)⟩, ⟨by (with_reducible repeat (first | apply Kd.R_alloc | apply Kd.R_drewN | apply Kd.R_drew)); exact Kd.R_mono HO610.out (fun _ hk => by first | exact hk.2 | trivial | simp_all)⟩, ⟨nr_ HO600.out⟩, ⟨nb_ BK603.out⟩, ⟨ne_ HB.out⟩⟩
   rw [if_neg c14] at H
   have c14b0 : (t607 != t611) = false := by simpa using c14
   (try (have c14b1 : decide (t607 = t611) = true := by simpa using c14))
   (try (have c14b2 : (t607 == t611) = true := by simpa using c14))
   clear c14
   (first | rw [c14b0] | (simp only [i64_w, i32_w]; rw [c14b0]) | skip)
   replace H := Option.bind_eq_some_iff.mp H
   obtain ⟨t612, A150, H⟩ := H
   replace H : (if t612 = true then (laws_FnNearRest.j0 k t602 t604 t607 t608 t611 ((t604.length : Int) == 0) t597 t598) else (laws_FnNearRest.j0 k t602 t604 t607 t608 t611 true t597 t598)) = some r := H
   have A15 := Aside0.mk A150
   clear A150
   by_cases c16 : t612 = true
   ·subst c16
    have H1 : (laws_FnNearRest.j0 k t602 t604 t607 t608 t611 ((t604.length : Int) == 0) t597 t598) = some r := by rw [if_pos rfl] at H; exact H
    clear H
    have H := H1
    clear H1
    have H' := Aside0.mk H
    clear H
    obtain ⟨Ao17, co17, eo17⟩ := Kd.R_slice HO606.out
    subst eo17
    obtain ⟨Ao18, co18, eo18⟩ := Kd.R_slice HO610.out
    subst eo18
    go_wp2_with (first | (go_at_call 15; (with_reducible refine (laws_wkInts.calls k _ _ t604 _ _ t608 true _ ?side1 ?side2 ?side3 ?side4 A15.out).mono ?_); (case side1 => exact nc_ (rR7 HO606.out).2.2); (case side2 => exact (rR7 HO606.out).2.1); (case side3 => exact nc_ (rR7 HO610.out).2.2); (case side4 => exact (rR7 HO610.out).2.1); rintro e w' ⟨rfl, ⟨nd, rfl⟩⟩))
    go_meet
    case rel => exact ⟨_, (((t604.length : Int) == 0)), ns_, H', ⟨by first | omega | exact Nat.le_refl _⟩, ⟨by (with_reducible repeat (first | apply Kd.R_alloc | apply Kd.R_drewN | apply Kd.R_drew)); exact Kd.R_mono HO606.out (fun _ hk => by first | exact hk.2 | trivial | simp_all)⟩, ⟨by (with_reducible repeat (first | apply Kd.R_alloc | apply Kd.R_drewN | apply Kd.R_drew)); exact Kd.R_mono HO610.out (fun _ hk => by first | exact hk.2 | trivial | simp_all)⟩, ⟨nr_ HO600.out⟩, ⟨nb_ BK603.out⟩, ⟨ne_ HB.out⟩⟩
   replace c16 := Bool.eq_false_iff.mpr c16
   subst c16
   have H1 : (laws_FnNearRest.j0 k t602 t604 t607 t608 t611 true t597 t598) = some r := by rw [if_neg (show ¬ (false = true) by decide)] at H; exact H
   clear H
   have H := H1
   clear H1
   have H' := Aside0.mk H
   clear H
   obtain ⟨Ao19, co19, eo19⟩ := Kd.R_slice HO606.out
   subst eo19
   obtain ⟨Ao20, co20, eo20⟩ := Kd.R_slice HO610.out
   subst eo20
   go_wp2_with (first | (go_at_call 15; (with_reducible refine (laws_wkInts.calls k _ _ t604 _ _ t608 false _ ?side1 ?side2 ?side3 ?side4 A15.out).mono ?_); (case side1 => exact nc_ (rR7 HO606.out).2.2); (case side2 => exact (rR7 HO606.out).2.1); (case side3 => exact nc_ (rR7 HO610.out).2.2); (case side4 => exact (rR7 HO610.out).2.1); rintro e w' ⟨rfl, ⟨nd, rfl⟩⟩))
   go_meet
   case rel => exact ⟨_, (true), ns_, H', ⟨by first | omega | exact Nat.le_refl _⟩, ⟨by (with_reducible repeat (first | apply Kd.R_alloc | apply Kd.R_drewN | apply Kd.R_drew)); exact Kd.R_mono HO606.out (fun _ hk => by first | exact hk.2 | trivial | simp_all)⟩, ⟨by (with_reducible repeat (first | apply Kd.R_alloc | apply Kd.R_drewN | apply Kd.R_drew)); exact Kd.R_mono HO610.out (fun _ hk => by first | exact hk.2 | trivial | simp_all)⟩, ⟨nr_ HO600.out⟩, ⟨nb_ BK603.out⟩, ⟨ne_ HB.out⟩⟩
  case rest =>
   clear HC6
   try clear c1
   try clear c2
   try clear c2b0
   try clear c2b1
   try clear p2
   try clear c3
   try clear c7
   try clear c14
   try clear c14b0
   try clear c14b1
   try clear c14b2
   try clear c16
   try clear hcz12_0
   try clear hcz12_1
   try clear hcz9_0
   try clear hcz9_1
   try clear hfz12_0
   try clear hfz12_1
   try clear hfz9_0
   try clear hfz9_1
   obtain ⟨kq, x48_5, rfl, HA, HJ5, HO_6, HO_8, HO_604001, BK603, HB⟩ := hcut
   cases kq with
   | zero => exact absurd HA.out (by simp [laws_FnNearRest.j0])
   | succ kj5 =>
    have H := HA.out
    clear HA
    simp only [laws_FnNearRest.j0] at H
    by_cases c21 : x48_5 = true
    ·subst c21
     have H1 : (if (t607 == t611) = true then ((laws_wkInts.f kj5 t604 t608).bind fun t613 => (some t613)) else (some false)) = some r := by rw [if_pos rfl] at H; exact H
     clear H
     have H := H1
     clear H1
     by_cases c22 : (t607 == t611) = true
     rotate_left
     ·rw [if_neg c22] at H
      have c22b0 : (t607 == t611) = false := by simpa using c22
      (try (have c22b1 : decide (t607 = t611) = false := by simpa using c22))
      (try (have c22b2 : (t607 == t611) = false := by simpa using c22))
      (try (have c22b3 : ¬ (t607 = t611) := by simpa using c22))
      clear c22
      obtain rfl := Option.some.inj H
      go_wp2
      go_ret
      exact ⟨nw_, ne_ HB.out⟩
     rw [if_pos c22] at H
     have c22b0 : (t607 == t611) = true := c22
     (try (have c22b1 : decide (t607 = t611) = true := by simpa using c22))
     (try (have c22b2 : (t607 == t611) = true := by simpa using c22))
     clear c22
     replace H := Option.bind_eq_some_iff.mp H
     obtain ⟨t613, A230, H⟩ := H
     replace H : (some t613) = some r := H
     have A23 := Aside0.mk A230
     clear A230
     obtain rfl := Option.some.inj H
     obtain ⟨Ao24, co24, eo24⟩ := Kd.R_slice HO_6.out
     subst eo24
     obtain ⟨Ao25, co25, eo25⟩ := Kd.R_slice HO_8.out
     subst eo25
     go_wp2_with (first | (go_at_call 15; (with_reducible refine (laws_wkInts.calls kj5 _ _ t604 _ _ t608 t613 _ ?side1 ?side2 ?side3 ?side4 A23.out).mono ?_); (case side1 => exact nc_ (rR7 HO_6.out).2.2); (case side2 => exact (rR7 HO_6.out).2.1); (case side3 => exact nc_ (rR7 HO_8.out).2.2); (case side4 => exact (rR7 HO_8.out).2.1); rintro e w' ⟨rfl, ⟨nd, rfl⟩⟩))
     go_ret
     exact ⟨nw_, ne_ HB.out⟩
    replace c21 := Bool.eq_false_iff.mpr c21
    subst c21
    have H1 : (if 0 < (t604.length : Int) then (if 0 ≤ (rd t604 0) then (if (rd t604 0) < (t598.length : Int) then ((impl_NearWalk.f kj5 t597 t598 ((rd_T33 t598 (rd t604 0)).f1) t602).bind fun bt616 => (if bt616.2 = true then (if 1 ≤ (t604.length : Int) then ((laws_wkInts.f kj5 bt616.1 (t604.drop 1)).bind fun t624 => (some t624)) else (none)) else (some false))) else (none)) else (none)) else (none)) = some r := by rw [if_neg (show ¬ (false = true) by decide)] at H; exact H
    clear H
    have H := H1
    clear H1
    by_cases c26 : 0 < (t604.length : Int)
    rotate_left
    ·rw [if_neg c26] at H
     exact absurd H (by simp)

    rw [if_pos c26] at H
    have c26b0 : decide (0 < (t604.length : Int)) = true := decide_eq_true c26
    have c26b1 : decide (0 < t604.length) = true := decide_eq_true (by omega)
    clear c26
    by_cases c27 : 0 ≤ (rd t604 0)
    rotate_left
    ·rw [if_neg c27] at H
     exact absurd H (by simp)
    rw [if_pos c27] at H
    have c27b0 : decide (0 ≤ (rd t604 0)) = true := decide_eq_true c27
    clear c27
    by_cases c28 : (rd t604 0) < (t598.length : Int)
    rotate_left
    ·rw [if_neg c28] at H
     exact absurd H (by simp)
    rw [if_pos c28] at H
    have c28b0 : decide ((rd t604 0) < (t598.length : Int)) = true := decide_eq_true c28
    clear c28
    replace H := Option.bind_eq_some_iff.mp H
    obtain ⟨⟨t616, t619⟩, A290, H⟩ := H
    replace H : (if t619 = true then (if 1 ≤ (t604.length : Int) then ((laws_wkInts.f kj5 t616 (t604.drop 1)).bind fun t624 => (some t624)) else (none)) else (some false)) = some r := H
    have A29 := Aside0.mk A290
    clear A290
    by_cases c30 : t619 = true
    rotate_left
    ·replace c30 := Bool.eq_false_iff.mpr c30
     subst c30
     have H1 : (some false) = some r := by rw [if_neg (show ¬ (false = true) by decide)] at H; exact H
     clear H
     have H := H1
     clear H1
     obtain rfl := Option.some.inj H
     try go_wp2
     have n0_ := Aside0.mk (Kd.R_drew HO_6.out)
     have n1_ := Aside0.mk (Kd.R_drew HO_8.out)
     have n2_ := Aside0.mk (Kd.R_drew HO_604001.out)
     have n3_ := Aside0.mk (blk_drew BK603.out)
     have n4_ := Aside0.mk (below_drew1 HB.out)
     clear HO_6
     clear HO_8
     clear HO_604001
     clear BK603
     clear HB
     have HO_6 := n0_
     have HO_8 := n1_
     have HO_604001 := n2_
     have BK603 := n3_
     have HB := n4_
     clear n0_ n1_ n2_ n3_ n4_
     obtain ⟨Ao39, co39, eo39⟩ := Kd.R_slice HO_6.out
     (first | subst eo39 | (injection eo39 with f1_ f2_ f3_; have f4_ := f1_.symm; have f5_ := f3_.symm; clear f1_ f2_ f3_; subst f4_; subst f5_))
     have p614 : 0 ≤ (0 : Int) := (by omega)
     have q614 : 0 < (t604.length : Int) := of_decide_eq_true nx_
     obtain ⟨ad614, e614, hx614_0⟩ := Kd.at_int (rR7 HO_6.out).2.2 0 p614 q614
     cases e614
     have qi614 : (0 < t604.length) = True := eq_true (by omega)
     (try rw [show ((0 : Int)).toNat = 0 from rfl] at hx614_0)
     (try rw [Addr.add_zero'] at hx614_0)
     replace p614 := eq_true p614
     replace q614 := eq_true q614
     have p615 : 0 ≤ ((rd t604 0) : Int) := of_decide_eq_true nx_
     have q615 : (rd t604 0) < (t598.length : Int) := of_decide_eq_true nx_
     obtain ⟨ad615, e615, hx615_0, hx615_1, hx615_2, hx615_3, hx615_4⟩ := at_T33 (rR7 HO_604001.out).2.2 (rd t604 0) p615 q615
     cases e615
     replace p615 := eq_true p615
     replace q615 := eq_true q615
     refine start_ (n := 16) (S := fun w' => w'.cell? ⟨gb603, 0, none⟩ = some (.int .i64 t597) ∧ w'.cell? ⟨gb603, 1, none⟩ = some (.slice (some ad615) t598.length co10) ∧ w'.cell? ad614 = some (.int .i64 (rd t604 0)) ∧ w'.cell? (ad615.add (((rd t604 0)).toNat * 5)) = some (.int .i64 ((rd_T33 t598 (rd t604 0)).f0)) ∧ w'.cell? ⟨(ad615.add (((rd t604 0)).toNat * 5)).block, (ad615.add (((rd t604 0)).toNat * 5)).off + 1, none⟩ = some (.int .i64 ((rd_T33 t598 (rd t604 0)).f1)) ∧ w'.cell? ⟨(ad615.add (((rd t604 0)).toNat * 5)).block, (ad615.add (((rd t604 0)).toNat * 5)).off + 2, none⟩ = some (.int .i64 ((rd_T33 t598 (rd t604 0)).f2)) ∧ w'.cell? ⟨(ad615.add (((rd t604 0)).toNat * 5)).block, (ad615.add (((rd t604 0)).toNat * 5)).off + 3, none⟩ = some (.int .i64 ((rd_T33 t598 (rd t604 0)).f3)) ∧ w'.cell? ⟨(ad615.add (((rd t604 0)).toNat * 5)).block, (ad615.add (((rd t604 0)).toNat * 5)).off + 4, none⟩ = some (.int .i64 ((rd_T33 t598 (rd t604 0)).f4))) (ds := []) z7_0 (by kernel_rfl) rfl rfl ⟨(blk_cell BK603.out 0).trans rfl, (blk_cell BK603.out 1).trans rfl, hx614_0, hx615_0, hx615_1, hx615_2, hx615_3, hx615_4⟩ (fun hHeld => ?_); refine with_tabW laws_FnNearRest.tab8 laws_FnNearRest.bits8 (fun HT_ HW_ => ?_)
     generalize wc.drew = w38 at HO_6 HO_8 HO_604001 BK603 HB hx614_0 hx615_0 hx615_1 hx615_2 hx615_3 hx615_4 hHeld ⊢
     refine pu_ 1 59 z7_1 HT_.out ?_
     refine pu_ 3 61 z7_2 HT_.out ?_
     refine pu_ 4 62 z7_3 HT_.out ?_
     refine pu_ 9 67 z7_4 HT_.out ?_
     refine tk_ 0 58 z7_5 HT_.out HW_.out hHeld ?_
     refine tk_ 2 60 z7_6 HT_.out HW_.out hHeld ?_
     refine tk_ 5 63 z7_7 HT_.out HW_.out hHeld ?_
     refine pu_ 6 64 z7_8 HT_.out ?_
     refine pu_ 7 65 z7_9 HT_.out ?_
     refine tk_ 8 66 z7_10 HT_.out HW_.out hHeld ?_
     refine one_ (i := 10) (N := some 68) z7_11 rfl rfl (one_of HT_.out (by kernel_rfl)) (by decide) (fun K hK => ?_)
     refine goes_ Try.func29 (by kernel_rfl) rfl #[.agg #[.int .i64 t597, .slice (some ad615) t598.length co10], .int .i64 ((rd_T33 t598 (rd t604 0)).f1), .int .i64 t602] (by rfl) rfl rfl na_ ?_
     with_reducible refine (impl_NearWalk.calls kj5 t597 _ _ t598 ((rd_T33 t598 (rd t604 0)).f1) t602 t616 false _ ?side1 ?side2 A29.out).mono ?_
     (case side1 => exact nc_ (rR7 HO_604001.out).2.2)
     (case side2 => exact (rR7 HO_604001.out).2.1)
     rintro e w40 ⟨v617, rfl, ho0, hb⟩
     have HS2_ := (hb.cell (World.block_lt_of_cell? _ _ (hHeld.2.2.1))).trans (hHeld.2.2.1)
     have HS3_ := (hb.cell (World.block_lt_of_cell? _ _ (hHeld.2.2.2.1))).trans (hHeld.2.2.2.1)
     have HS4_ := (hb.cell (World.block_lt_of_cell? _ _ (hHeld.2.2.2.2.1))).trans (hHeld.2.2.2.2.1)
     have HS5_ := (hb.cell (World.block_lt_of_cell? _ _ (hHeld.2.2.2.2.2.1))).trans (hHeld.2.2.2.2.2.1)
     have HS6_ := (hb.cell (World.block_lt_of_cell? _ _ (hHeld.2.2.2.2.2.2.1))).trans (hHeld.2.2.2.2.2.2.1)
     have HS7_ := (hb.cell (World.block_lt_of_cell? _ _ (hHeld.2.2.2.2.2.2.2))).trans (hHeld.2.2.2.2.2.2.2)
     refine ⟨_, rfl, ?_⟩
     have n0_ := Aside0.mk (Kd.R_elder' (nr_ HO_6.out) (Kd.R_base ho0) hb)
     have n1_ := Aside0.mk (Kd.R_elder' (nr_ HO_8.out) (Kd.R_base ho0) hb)
     have n2_ := Aside0.mk (Kd.R_below (nr_ HO_604001.out) hb)
     have n3_ := Aside0.mk (Kd.R_lower (Kd.R_new' (Kd.R_new' ho0 (Kd.R_lt (nr_ HO_6.out))) (Kd.R_lt (nr_ HO_8.out))) (below_size (ne_ HB.out)))
     have n4_ := Aside0.mk (blk_below (g := gb603) (o := .cells #[.int .i64 t597, .slice (some ad615) t598.length co10] 25 (0, 0)) (nb_ BK603.out) hb)
     have n5_ := Aside0.mk (below_step (ne_ HB.out) hb)
     clear HO_6
     clear HO_8
     clear HO_604001
     clear BK603
     clear HB
     have HO_6 := n0_
     have HO_8 := n1_
     have HO_604001 := n2_
     have HO618 := n3_
     have BK603 := n4_
     have HB := n5_
     clear n0_ n1_ n2_ n3_ n4_ n5_
     (try clear hb)
     (try clear hb2)
     (try clear hk)
     (try clear hi)
     (try clear ho0)
     refine hK.out _ _ ⟨(blk_cell BK603.out 0).trans rfl, (blk_cell BK603.out 1).trans rfl, HS2_, HS3_, HS4_, HS5_, HS6_, HS7_⟩ (fun hHeld => ?_)
     clear hK K
     refine norm_ (a' := ?_) ?_ ?_
     rotate_left
     ·show Act.put _ (some 68) _ = _
      simp only [Act.put, List.setIfInBounds_toArray, List.set_cons_zero, List.set_cons_succ, i64_w, i32_w]
      rfl
     refine pu_ 11 57 z7_12 HT_.out ?_
     refine pu_ 12 69 z7_13 HT_.out ?_
     refine pu_ 13 70 z7_14 HT_.out ?_
     refine pu_ 14 10 z7_15 HT_.out ?_
     refine pu_ 15 11 z7_16 HT_.out ?_
     refine done_ (done_of HT_.out (by kernel_rfl)) ?_
     try go_wp2
     go_ret
     exact ⟨nw_, ne_ HB.out⟩
    subst c30
    have H1 : (if 1 ≤ (t604.length : Int) then ((laws_wkInts.f kj5 t616 (t604.drop 1)).bind fun t624 => (some t624)) else (none)) = some r := by rw [if_pos rfl] at H; exact H
    clear H
    have H := H1
    clear H1
    by_cases c31 : 1 ≤ (t604.length : Int)
    rotate_left
    ·rw [if_neg c31] at H
     exact absurd H (by simp)
    rw [if_pos c31] at H
    have c31b0 := eq_true c31
    have c31b1 : decide (1 ≤ (t604.length : Int)) = true := decide_eq_true c31
    clear c31
    obtain ⟨y620, hy620⟩ : ∃ y_ : List Int, y_ = (t604.drop 1) := ⟨_, rfl⟩
    replace H : ((laws_wkInts.f kj5 t616 y620).bind fun t624 => (some t624)) = some r := by first | (rw [hy620]; with_reducible exact H) | (have H2_ := (Option.bind_some _ _).symm.trans H; rw [hy620]; with_reducible exact H2_) | (have H2_ := (Option.bind_some _ _).symm.trans H; with_reducible exact H2_) | with_reducible exact H | (rw [hy620]; exact H) | exact H
    have Ny620 := Aside0.mk hy620
    clear hy620
    replace H := Option.bind_eq_some_iff.mp H
    obtain ⟨t624, A320, H⟩ := H
    replace H : (some t624) = some r := H
    have A32 := Aside0.mk A320
    clear A320
    obtain rfl := Option.some.inj H
    try go_wp2
    have n0_ := Aside0.mk (Kd.R_drew HO_6.out)
    have n1_ := Aside0.mk (Kd.R_drew HO_8.out)
    have n2_ := Aside0.mk (Kd.R_drew HO_604001.out)
    have n3_ := Aside0.mk (blk_drew BK603.out)
    have n4_ := Aside0.mk (below_drew1 HB.out)
    clear HO_6
    clear HO_8
    clear HO_604001
    clear BK603
    clear HB
    have HO_6 := n0_
    have HO_8 := n1_
    have HO_604001 := n2_
    have BK603 := n3_
    have HB := n4_
    clear n0_ n1_ n2_ n3_ n4_
    obtain ⟨Ao34, co34, eo34⟩ := Kd.R_slice HO_6.out
    (first | subst eo34 | (injection eo34 with f1_ f2_ f3_; have f4_ := f1_.symm; have f5_ := f3_.symm; clear f1_ f2_ f3_; subst f4_; subst f5_))
    have p614 : 0 ≤ (0 : Int) := (by omega)
    have q614 : 0 < (t604.length : Int) := of_decide_eq_true nx_
    obtain ⟨ad614, e614, hx614_0⟩ := Kd.at_int (rR7 HO_6.out).2.2 0 p614 q614
    cases e614
    have qi614 : (0 < t604.length) = True := eq_true (by omega)
    (try rw [show ((0 : Int)).toNat = 0 from rfl] at hx614_0)
    (try rw [Addr.add_zero'] at hx614_0)
    replace p614 := eq_true p614
    replace q614 := eq_true q614
    have p615 : 0 ≤ ((rd t604 0) : Int) := of_decide_eq_true nx_
    have q615 : (rd t604 0) < (t598.length : Int) := of_decide_eq_true nx_
    obtain ⟨ad615, e615, hx615_0, hx615_1, hx615_2, hx615_3, hx615_4⟩ := at_T33 (rR7 HO_604001.out).2.2 (rd t604 0) p615 q615
    cases e615
    replace p615 := eq_true p615
    replace q615 := eq_true q615
    refine start_ (n := 16) (S := fun w' => w'.cell? ⟨gb603, 0, none⟩ = some (.int .i64 t597) ∧ w'.cell? ⟨gb603, 1, none⟩ = some (.slice (some ad615) t598.length co10) ∧ w'.cell? ad614 = some (.int .i64 (rd t604 0)) ∧ w'.cell? (ad615.add (((rd t604 0)).toNat * 5)) = some (.int .i64 ((rd_T33 t598 (rd t604 0)).f0)) ∧ w'.cell? ⟨(ad615.add (((rd t604 0)).toNat * 5)).block, (ad615.add (((rd t604 0)).toNat * 5)).off + 1, none⟩ = some (.int .i64 ((rd_T33 t598 (rd t604 0)).f1)) ∧ w'.cell? ⟨(ad615.add (((rd t604 0)).toNat * 5)).block, (ad615.add (((rd t604 0)).toNat * 5)).off + 2, none⟩ = some (.int .i64 ((rd_T33 t598 (rd t604 0)).f2)) ∧ w'.cell? ⟨(ad615.add (((rd t604 0)).toNat * 5)).block, (ad615.add (((rd t604 0)).toNat * 5)).off + 3, none⟩ = some (.int .i64 ((rd_T33 t598 (rd t604 0)).f3)) ∧ w'.cell? ⟨(ad615.add (((rd t604 0)).toNat * 5)).block, (ad615.add (((rd t604 0)).toNat * 5)).off + 4, none⟩ = some (.int .i64 ((rd_T33 t598 (rd t604 0)).f4))) (ds := []) z7_0 (by kernel_rfl) rfl rfl ⟨(blk_cell BK603.out 0).trans rfl, (blk_cell BK603.out 1).trans rfl, hx614_0, hx615_0, hx615_1, hx615_2, hx615_3, hx615_4⟩ (fun hHeld => ?_); refine with_tabW laws_FnNearRest.tab8 laws_FnNearRest.bits8 (fun HT_ HW_ => ?_)
    generalize wc.drew = w33 at HO_6 HO_8 HO_604001 BK603 HB hx614_0 hx615_0 hx615_1 hx615_2 hx615_3 hx615_4 hHeld ⊢
    refine pu_ 1 59 z7_1 HT_.out ?_
    refine pu_ 3 61 z7_2 HT_.out ?_
    refine pu_ 4 62 z7_3 HT_.out ?_
    refine pu_ 9 67 z7_4 HT_.out ?_
    refine tk_ 0 58 z7_5 HT_.out HW_.out hHeld ?_
    refine tk_ 2 60 z7_6 HT_.out HW_.out hHeld ?_
    refine tk_ 5 63 z7_7 HT_.out HW_.out hHeld ?_
    refine pu_ 6 64 z7_8 HT_.out ?_
    refine pu_ 7 65 z7_9 HT_.out ?_
    refine tk_ 8 66 z7_10 HT_.out HW_.out hHeld ?_
    refine one_ (i := 10) (N := some 68) z7_11 rfl rfl (one_of HT_.out (by kernel_rfl)) (by decide) (fun K hK => ?_)
    refine goes_ Try.func29 (by kernel_rfl) rfl #[.agg #[.int .i64 t597, .slice (some ad615) t598.length co10], .int .i64 ((rd_T33 t598 (rd t604 0)).f1), .int .i64 t602] (by rfl) rfl rfl na_ ?_
    with_reducible refine (impl_NearWalk.calls kj5 t597 _ _ t598 ((rd_T33 t598 (rd t604 0)).f1) t602 t616 true _ ?side1 ?side2 A29.out).mono ?_
    (case side1 => exact nc_ (rR7 HO_604001.out).2.2)
    (case side2 => exact (rR7 HO_604001.out).2.1)
    rintro e w35 ⟨v617, rfl, ho0, hb⟩
    have HS2_ := (hb.cell (World.block_lt_of_cell? _ _ (hHeld.2.2.1))).trans (hHeld.2.2.1)
    have HS3_ := (hb.cell (World.block_lt_of_cell? _ _ (hHeld.2.2.2.1))).trans (hHeld.2.2.2.1)
    have HS4_ := (hb.cell (World.block_lt_of_cell? _ _ (hHeld.2.2.2.2.1))).trans (hHeld.2.2.2.2.1)
    have HS5_ := (hb.cell (World.block_lt_of_cell? _ _ (hHeld.2.2.2.2.2.1))).trans (hHeld.2.2.2.2.2.1)
    have HS6_ := (hb.cell (World.block_lt_of_cell? _ _ (hHeld.2.2.2.2.2.2.1))).trans (hHeld.2.2.2.2.2.2.1)
    have HS7_ := (hb.cell (World.block_lt_of_cell? _ _ (hHeld.2.2.2.2.2.2.2))).trans (hHeld.2.2.2.2.2.2.2)
    refine ⟨_, rfl, ?_⟩
    have n0_ := Aside0.mk (Kd.R_elder' (nr_ HO_6.out) (Kd.R_base ho0) hb)
    have n1_ := Aside0.mk (Kd.R_elder' (nr_ HO_8.out) (Kd.R_base ho0) hb)
    have n2_ := Aside0.mk (Kd.R_below (nr_ HO_604001.out) hb)
    have n3_ := Aside0.mk (Kd.R_lower (Kd.R_new' (Kd.R_new' ho0 (Kd.R_lt (nr_ HO_6.out))) (Kd.R_lt (nr_ HO_8.out))) (below_size (ne_ HB.out)))
    have n4_ := Aside0.mk (blk_below (g := gb603) (o := .cells #[.int .i64 t597, .slice (some ad615) t598.length co10] 25 (0, 0)) (nb_ BK603.out) hb)
    have n5_ := Aside0.mk (below_step (ne_ HB.out) hb)
    clear HO_6
    clear HO_8
    clear HO_604001
    clear BK603
    clear HB
    have HO_6 := n0_
    have HO_8 := n1_
    have HO_604001 := n2_
    have HO618 := n3_
    have BK603 := n4_
    have HB := n5_
    clear n0_ n1_ n2_ n3_ n4_ n5_
    (try clear hb)
    (try clear hb2)
    (try clear hk)
    (try clear hi)
    (try clear ho0)
    refine hK.out _ _ ⟨(blk_cell BK603.out 0).trans rfl, (blk_cell BK603.out 1).trans rfl, HS2_, HS3_, HS4_, HS5_, HS6_, HS7_⟩ (fun hHeld => ?_)
    clear hK K
    refine norm_ (a' := ?_) ?_ ?_
    rotate_left
    ·show Act.put _ (some 68) _ = _
     simp only [Act.put, List.setIfInBounds_toArray, List.set_cons_zero, List.set_cons_succ, i64_w, i32_w]
     rfl
    refine pu_ 11 57 z7_12 HT_.out ?_
    refine pu_ 12 69 z7_13 HT_.out ?_
    refine pu_ 13 70 z7_14 HT_.out ?_
    refine pu_ 14 10 z7_15 HT_.out ?_
    refine pu_ 15 11 z7_16 HT_.out ?_
    refine done_ (done_of HT_.out (by kernel_rfl)) ?_
    have q36 : (1 : Int) ≤ ((t604.length : Int) : Int) := of_decide_eq_true nx_
    obtain ⟨i036, hi036, _, hsz36, _⟩ := info_parts info3
    have hroom36 : t604.length ≤ co34 := (rR7 HO_6.out).2.1
    have hC36 : Kd.C (Kd.int .i64) _ (some ad614) t604.length t604 := (rR7 HO_6.out).2.2
    have hcut36 := cut_from (P := Try.prog) 28 3 .i64 Try.underlying28 hi036 1 hsz36 (some ad614) t604.length co34 1 (by omega) q36
    have hr36 := Kd.C_drop (m := (1 : Int).toNat) (c := co34) hC36 (by omega) hroom36
    obtain ⟨A36, hA36⟩ : ∃ A1, A1 = (if co34 = (1 : Int).toNat then (some ad614) else ((some ad614) : Option Addr).map (·.add ((1 : Int).toNat * 1))) := ⟨_, rfl⟩
    obtain ⟨c36, hc36⟩ : ∃ c1, c1 = co34 - (1 : Int).toNat := ⟨_, rfl⟩
    have hy36 : y620.length = t604.length - (1 : Int).toNat := (by rw [Ny620.out, List.length_drop] <;> omega)
    rw [show (t604).drop (1 : Int).toNat = y620 from Ny620.out.symm] at hr36
    replace hr36 : Kd.C (Kd.int .i64) _ A36 y620.length y620 := (by rw [hA36]; exact hr36)
    rw [← hy36, ← hA36, ← hc36] at hcut36
    have HR623 := Aside0.mk hr36
    have HC623 := Aside0.mk (show y620.length ≤ c36 from by rw [hy36, hc36]; exact Nat.sub_le_sub_right hroom36 _)
    clear hr36 hC36 hroom36 hi036 hsz36
    have KC36 := Aside0.mk hc36
    clear hc36
    have KY36 := Aside0.mk hy36
    have KA36 := Aside0.mk hA36
    clear hy36 hA36
    have KL36 := Aside0.mk (show 1 ≤ t604.length from by omega)
    replace q36 := eq_true q36
    obtain ⟨Ao37, co37, eo37⟩ := Kd.R_slice HO618.out
    subst eo37
    try go_wp2_with (first | (go_at_call 15; (with_reducible refine (laws_wkInts.calls kj5 _ _ t616 _ _ y620 t624 _ ?side1 ?side2 ?side3 ?side4 A32.out).mono ?_); (case side1 => exact nc_ (rR7 HO618.out).2.2); (case side2 => exact (rR7 HO618.out).2.1); (case side3 => repeat (first | exact (by repeat (first | (with_reducible exact HR623.out) | (with_reducible refine Kd.C_alloc ?_ _) | (with_reducible refine Kd.C_drewN ?_ _) | (with_reducible refine Kd.C_drew ?_) | exact HR623.out)) | (with_reducible refine Kd.C_alloc ?_ _) | (with_reducible refine Kd.C_drewN ?_ _) | (with_reducible refine Kd.C_drew ?_))); (case side4 => exact HC623.out); rintro e w' ⟨rfl, ⟨nd, rfl⟩⟩))
    all_goals go_ret
    all_goals exact ⟨nw_, ne_ HB.out⟩
/-- THE ONE PURE STATEMENT of laws_FnNearRest: yours. -/
def laws_FnNearRest.Pure : Prop := ∀ (l0 : List Int), l0.length ≤ maxLen → l0.length * 1 ≤ 140737488351232 → (∀ x ∈ l0, (Lit.int .u8 x).wf = true) → ∃ k, laws_FnNearRest.f k l0 = some true
theorem laws_FnNearRest.walk (P : laws_FnNearRest.Pure) (a0 : Option Addr) (len0 cap0 : Nat) (z0 : List Int) (w : World) (w0 : (a0 = none ∧ len0 = 0 ∧ cap0 = 0 ∧ z0 = []) ∨ ∃ x, a0 = some x ∧ len0 ≤ cap0 ∧ cap0 ≤ maxLen ∧ z0.length = cap0 ∧ (∀ i, i < z0.length → w.cell? (x.add i) = some (.int .u8 (z0.getD i 0))) ∧ ∀ n ∈ z0, (Lit.int .u8 n).wf = true) (y0 : len0 * 1 ≤ 140737488351232) :
    Calls Try.prog 7 #[.slice a0 len0 cap0] w fun e w' => e = .returned (.bool true) ∧ Below w.heap.size w w' := by
  obtain ⟨l0, rfl, hr0, hm0, hw0, hc0⟩ := ReadsInt.ofRowC w0
  obtain ⟨k, h⟩ := P l0 hm0 y0 hw0
  refine (laws_FnNearRest.calls k _ _ l0 true w (Kd.C_of_reads (d := (0 : Int)) (h1 := fun _ => rfl) hr0) hc0 h).mono ?_
  rintro e w' ⟨rfl, hd⟩
  exact ⟨rfl, hd⟩

end Go.Proofs.Ytbmoonciggfbpaa.Print
