-- Made by this session's own program (wip/patch_print.py, over the kit's print). Lean checks it.
import Derived.Test.YtgnnimhhkbbfiaaPrint0
import Derived.Test.YtgnnimhhkbbfiaaPrintB
import Derived.Test.YtgnnimhhkbbfiaaPrintF10
import Derived.Test.YtgnnimhhkbbfiaaPrintF11
import Derived.Test.YtgnnimhhkbbfiaaPrintF4
import Derived.Test.YtgnnimhhkbbfiaaPrintF5
import Derived.Test.YtgnnimhhkbbfiaaPrintF6
import Derived.Test.YtgnnimhhkbbfiaaPrintF8
import Derived.Test.YtgnnimhhkbbfiaaPrintF9
namespace Go.Proofs.Ytgnnimhhkbbfiaa.Print
open Go.RowKit Go.Proofs.YtgnnimhhkbbfiaaW.PrintWords Go.Proofs.YtgnnimhhkbbfiaaW.PrintLast Go.Proofs.YtgnnimhhkbbfiaaW.PrintMore Go.Proofs.YtgnnimhhkbbfiaaX
attribute [local go_sem] max2_int min2_int max_two min_two max_three min_three max_four min_four   -- for this text's walks alone
set_option linter.unusedVariables false
set_option linter.unusedSimpArgs false

abbrev z3_0 := bm_ 25 0
abbrev z3_1 := bm_ 25 2
abbrev z3_2 := bm_ 25 6
abbrev z3_3 := bm_ 25 14
abbrev z3_4 := bm_ 25 15
abbrev z3_5 := bm_ 25 31
abbrev z3_6 := bm_ 25 63
abbrev z3_7 := bm_ 25 191
abbrev z3_8 := bm_ 25 1215
abbrev z3_9 := bm_ 25 5311
abbrev z3_10 := bm_ 25 5375
abbrev z3_11 := bm_ 25 5887
abbrev z3_12 := bm_ 25 6143
abbrev z3_13 := bm_ 25 8191
abbrev z3_14 := bm_ 25 16383
abbrev z3_15 := bm_ 25 32767
abbrev z3_16 := bm_ 25 65535
abbrev z3_17 := bm_ 25 131071
abbrev z3_18 := bm_ 25 262143
abbrev z3_19 := bm_ 25 4194303
abbrev z3_20 := bm_ 25 8388607
abbrev z3_21 := bm_ 25 16777215
abbrev z3_22 := bm_ 25 33554431
abbrev z3_23 := bm_ 25 524287
abbrev z3_24 := bm_ 25 1048575
abbrev z3_25 := bm_ 25 2097151
abbrev rR3 := @Kd.R_reads'
/-! ### laws_FnNearWalk: function 3 -/
def laws_FnNearWalk.j0 : Nat → Int → Int → List Int → Bool → List Int → Bool → Bool → Int → List (S47) → Option (Bool)
  | 0, _, _, _, _, _, _, _, _, _ => none
  | k + 1, x4, x5, x6, x7, x8, x9, x45, x421000, x421001 => if x45 = true then (if (x7 == x9) = true then ((laws_wkInts.f k x6 x8).bind fun t430 => (some t430)) else (some false)) else ((laws_wkEnds.f k x421000 x421001 x6 x4 x5).bind fun t431 => (if t431 = true then ((impl_WalkCost.f k x421000 x421001 x6).bind fun t432 => ((impl_NearAll.f k x421000 x421001 x4).bind fun t433 => (if 0 ≤ x5 then (if x5 < (t433.length : Int) then (if t432 = (rd t433 x5) then ((impl_WalkPlain.f k x421000 x421001 x6).bind fun t437 => ((laws_wkInts.f k t437 x6).bind fun t440 => (some t440))) else (some false)) else (none)) else (none)))) else (some false)))
def laws_FnNearWalk.f (k : Nat) (l0 : List Int) : Option (Bool) := if (l0.length : Int) > 1048576 then (some true) else ((spec_DrawNearWalk.f k l0).bind fun bt414 => ((impl_NearWalk.f k bt414.1 bt414.2.1 bt414.2.2.1 bt414.2.2.2).bind fun bt421 => ((spec_NearWalk.f k bt414.1 bt414.2.1 bt414.2.2.1 bt414.2.2.2).bind fun bt425 => (if (bt421.2 != bt425.2) = true then (laws_FnNearWalk.j0 k bt414.2.2.1 bt414.2.2.2 bt421.1 bt421.2 bt425.1 bt425.2 true bt414.1 bt414.2.1) else ((laws_wkInts.f k bt421.1 bt425.1).bind fun t429 => (if t429 = true then (laws_FnNearWalk.j0 k bt414.2.2.1 bt414.2.2.2 bt421.1 bt421.2 bt425.1 bt425.2 (!bt421.2) bt414.1 bt414.2.1) else (laws_FnNearWalk.j0 k bt414.2.2.1 bt414.2.2.2 bt421.1 bt421.2 bt425.1 bt425.2 true bt414.1 bt414.2.1)))))))
theorem laws_FnNearWalk.mono_l : ∀ k, (∀ y0 y1 y2 y3 y4 y5 y6 y7 y8, LeO (laws_FnNearWalk.j0 k y0 y1 y2 y3 y4 y5 y6 y7 y8) (laws_FnNearWalk.j0 (k + 1) y0 y1 y2 y3 y4 y5 y6 y7 y8))
  | 0 => fun _ _ _ _ _ _ _ _ _ r h => by simp [laws_FnNearWalk.j0] at h
  | k + 1 => by
    have ih0 := laws_FnNearWalk.mono_l k
    · intro y0 y1 y2 y3 y4 y5 y6 y7 y8
      unfold laws_FnNearWalk.j0
      repeat' first | (with_reducible first | exact ih0 _ _ _ _ _ _ _ _ _ | exact impl_NearAll.mono _ _ _ _ | exact impl_NearWalk.mono _ _ _ _ _ | exact impl_WalkCost.mono _ _ _ _ | exact impl_WalkPlain.mono _ _ _ _ | exact laws_wkEnds.mono _ _ _ _ _ _ | exact laws_wkInts.mono _ _ _ | exact spec_DrawNearWalk.mono _ _ | exact spec_NearWalk.mono _ _ _ _ _ | exact LeO.refl _ | exact LeO.none _ | refine LeO.ite ?_ ?_ | refine LeO.bind ?_ (fun _ => ?_)) | exact ih0 _ _ _ _ _ _ _ _ _ | exact impl_NearAll.mono _ _ _ _ | exact impl_NearWalk.mono _ _ _ _ _ | exact impl_WalkCost.mono _ _ _ _ | exact impl_WalkPlain.mono _ _ _ _ | exact laws_wkEnds.mono _ _ _ _ _ _ | exact laws_wkInts.mono _ _ _ | exact spec_DrawNearWalk.mono _ _ | exact spec_NearWalk.mono _ _ _ _ _ | exact LeO.none _ | refine LeO.ite ?_ ?_ | refine LeO.bind ?_ (fun _ => ?_)
theorem laws_FnNearWalk.mono : ∀ a0 k, LeO (laws_FnNearWalk.f k a0) (laws_FnNearWalk.f (k + 1) a0) := by
  intro a0 k
  have ih0 := laws_FnNearWalk.mono_l k
  unfold laws_FnNearWalk.f
  repeat' first | (with_reducible first | exact ih0 _ _ _ _ _ _ _ _ _ | exact impl_NearAll.mono _ _ _ _ | exact impl_NearWalk.mono _ _ _ _ _ | exact impl_WalkCost.mono _ _ _ _ | exact impl_WalkPlain.mono _ _ _ _ | exact laws_wkEnds.mono _ _ _ _ _ _ | exact laws_wkInts.mono _ _ _ | exact spec_DrawNearWalk.mono _ _ | exact spec_NearWalk.mono _ _ _ _ _ | exact LeO.refl _ | exact LeO.none _ | refine LeO.ite ?_ ?_ | refine LeO.bind ?_ (fun _ => ?_)) | exact ih0 _ _ _ _ _ _ _ _ _ | exact impl_NearAll.mono _ _ _ _ | exact impl_NearWalk.mono _ _ _ _ _ | exact impl_WalkCost.mono _ _ _ _ | exact impl_WalkPlain.mono _ _ _ _ | exact laws_wkEnds.mono _ _ _ _ _ _ | exact laws_wkInts.mono _ _ _ | exact spec_DrawNearWalk.mono _ _ | exact spec_NearWalk.mono _ _ _ _ _ | exact LeO.none _ | refine LeO.ite ?_ ?_ | refine LeO.bind ?_ (fun _ => ?_)
def laws_FnNearWalk.T8 : Bool × List (List Nat × List Nat) := (true, [([], []), ([], []), ([], []), ([], []), ([0, 1, 2, 3], [0, 1, 2, 3]), ([4, 4], [4]), ([5], [5]), ([5], [5]), ([6, 7, 5, 5], [5, 6, 7]), ([5], [5]), ([5], [5]), ([9, 10, 8, 5], [5, 9, 10]), ([5], [5]), ([11, 12, 5], [5, 11, 12]), ([13, 5], [5, 13]), ([8, 14, 5], [5, 8, 14]), ([5, 15], [5, 15]), ([16, 11], [16]), ([17], [17]), ([17], [17]), ([18, 19, 17, 17], [17, 18, 19]), ([17], [17]), ([20, 21, 20, 17], [17, 20, 21]), ([17, 22], [17, 22]), ([23, 22, 0, 1, 2, 3, 4, 5, 6, 7, 8, 9, 10, 11, 12, 13, 14, 15, 16, 17, 18, 19, 20, 21, 22, 23], [23])])
def laws_FnNearWalk.B8 : List Nat := [0, 0, 0, 0, 15, 31, 63, 63, 255, 63, 63, 2047, 63, 8191, 16383, 32767, 65535, 131071, 262143, 262143, 1048575, 262143, 4194303, 8388607, 16777215]
theorem laws_FnNearWalk.tab8 : rtab .any (opsOf Try.f3 8) = laws_FnNearWalk.T8 := by kernel_rfl
theorem laws_FnNearWalk.bits8 : waitsOk laws_FnNearWalk.T8.2 laws_FnNearWalk.B8 = true := by kernel_rfl
set_option maxHeartbeats 200000000 in
set_option maxRecDepth 100000 in
theorem laws_FnNearWalk.calls (k : Nat) (A0 : Option Addr) (c0 : Nat) (l0 : List Int) (r : Bool) (w : World) (hr0 : Kd.C (Kd.int .u8) w A0 l0.length l0) (hc0 : l0.length ≤ c0) (h : laws_FnNearWalk.f k l0 = some r) :
    Calls Try.prog 3 #[.slice A0 l0.length c0] w fun e w' => e = .returned (.bool r) ∧ Below w.heap.size w w' := by
  have hu25 := Try.underlying25
  have HR0 := Aside0.mk hr0
  have HC0 := Aside0.mk hc0
  clear hr0 hc0
  have HB := Aside0.mk (Below.refl w.heap.size w)
  have H : (if (l0.length : Int) > 1048576 then (some true) else ((spec_DrawNearWalk.f k l0).bind fun bt414 => ((impl_NearWalk.f k bt414.1 bt414.2.1 bt414.2.2.1 bt414.2.2.2).bind fun bt421 => ((spec_NearWalk.f k bt414.1 bt414.2.1 bt414.2.2.1 bt414.2.2.2).bind fun bt425 => (if (bt421.2 != bt425.2) = true then (laws_FnNearWalk.j0 k bt414.2.2.1 bt414.2.2.2 bt421.1 bt421.2 bt425.1 bt425.2 true bt414.1 bt414.2.1) else ((laws_wkInts.f k bt421.1 bt425.1).bind fun t429 => (if t429 = true then (laws_FnNearWalk.j0 k bt414.2.2.1 bt414.2.2.2 bt421.1 bt421.2 bt425.1 bt425.2 (!bt421.2) bt414.1 bt414.2.1) else (laws_FnNearWalk.j0 k bt414.2.2.1 bt414.2.2.2 bt421.1 bt421.2 bt425.1 bt425.2 true bt414.1 bt414.2.1)))))))) = some r := h
  clear h
  by_cases c2 : (l0.length : Int) > 1048576
  ·rw [if_pos c2] at H
   have c2b0 : decide (1048576 < (l0.length : Int)) = true := decide_eq_true c2
   have c2b1 : decide (1048576 < l0.length) = true := decide_eq_true (by omega)
   clear c2
   obtain rfl := Option.some.inj H
   go_enter Try.func3, Try.ntmps3
   go_wp2
   go_ret
   exact ⟨nw_, ne_ HB.out⟩
  rw [if_neg c2] at H
  have c2b0 : decide (1048576 < (l0.length : Int)) = false := decide_eq_false c2
  have c2b1 : decide (1048576 < l0.length) = false := decide_eq_false (by omega)
  clear c2
  replace H := Option.bind_eq_some_iff.mp H
  obtain ⟨⟨t414, t415, t418, t419⟩, A30, H⟩ := H
  try dsimp only at H
  have A3 := Aside0.mk A30
  clear A30
  replace H := Option.bind_eq_some_iff.mp H
  obtain ⟨⟨t421, t424⟩, A40, H⟩ := H
  try dsimp only at H
  have A4 := Aside0.mk A40
  clear A40
  replace H := Option.bind_eq_some_iff.mp H
  obtain ⟨⟨t425, t428⟩, A50, H⟩ := H
  try dsimp only at H
  have A5 := Aside0.mk A50
  clear A50
  have HC6 := Aside0.mk H
  clear H
  go_enter Try.func3, Try.ntmps3
  go_upto_region 6 with (first | ((with_reducible refine gate_callee (f := 4) rfl ?_); refine gl_ (some 15) Try.func4 #[.slice A0 l0.length c0] ?_; (with_reducible refine (spec_DrawNearWalk.calls k _ _ l0 t414 t415 t418 t419 _ ?side1 ?side2 A3.out).mono ?_); (case side1 => repeat (first | exact HR0.out | (with_reducible refine Kd.C_alloc ?_ _) | (with_reducible refine Kd.C_drewN ?_ _) | (with_reducible refine Kd.C_drew ?_))); (case side2 => exact HC0.out); rintro e w7 ⟨v416, rfl, ho0, hb⟩; refine ⟨_, rfl, ?_⟩; have HO417 := Aside0.mk (Kd.R_lower ho0 (below_size (ne_ HB.out))); replace HB := kB_ HB hb; (try clear hb); (try clear hb2); (try clear hk); (try clear hi); (try clear ho0)) | ((with_reducible refine gate_dst (N := 3) rfl ?_); refine bx_ 3 #[.int .i64 0, .slice none 0 0] 25 ?_; intro gb420 hg w8 hbox hb; have BK420 := Aside0.mk (hbox); have GW420 := Aside0.mk (zs_ hg (ne_ HB.out)); have GE420 := Aside0.mk (zs_ hg (ne_ HB.out)); replace HO417 := kR_ HO417 hb; replace HB := kB_ HB hb; clear hb hbox hg; obtain ⟨hcz9_0, hcz9_1, hfz9_0, hfz9_1⟩ := cz2_ BK420.out; obtain ⟨Ao10, co10, eo10⟩ := Kd.R_slice HO417.out; subst eo10) | ((with_reducible refine gate_callee (f := 5) rfl ?_); refine gl_ (some 23) Try.func5 #[.agg #[.int .i64 t414, .slice Ao10 t415.length co10], .int .i64 t418, .int .i64 t419] ?_; (with_reducible refine (impl_NearWalk.calls k t414 _ _ t415 t418 t419 t421 t424 _ ?side1 ?side2 A4.out).mono ?_); (case side1 => refine (rR3 (e := 47) (base := w.heap.size) (ok := fun k_ => True) (n := t415.length) (c := co10) ?_).2.2; exact (by (with_reducible repeat (first | apply Kd.R_alloc | apply Kd.R_drewN | apply Kd.R_drew)); exact (Kd.R_mono (rf2_ (Kd.R_types HO417.out BK420.out (by decide))) (fun _ h_ => h_.1)))); (case side2 => exact (rR3 HO417.out).2.1); rintro e w11 ⟨v422, rfl, ho0, hb⟩; refine ⟨_, rfl, ?_⟩; have HO423 := Aside0.mk (Kd.R_lower ho0 (below_size (ne_ HB.out))); replace HO417 := Aside0.mk (Kd.R_below (by (with_reducible repeat (first | apply Kd.R_alloc | apply Kd.R_drewN | apply Kd.R_drew)); exact (Kd.R_mono (rf2_ (Kd.R_types HO417.out BK420.out (by decide))) (fun _ h_ => h_.1))) hb); replace BK420 := Aside0.mk (blk_below (g := gb420) (o := .cells #[.int .i64 t414, .slice Ao10 t415.length co10] 25 (0, 0)) (np_ BK420.out) hb); replace HB := kB_ HB hb; (try clear hb); (try clear hb2); (try clear hk); (try clear hi); (try clear ho0); obtain ⟨hcz12_0, hcz12_1, hfz12_0, hfz12_1⟩ := cz2_ BK420.out) | ((with_reducible refine gate_callee (f := 6) rfl ?_); refine gl_ (some 30) Try.func6 #[.agg #[.int .i64 t414, .slice Ao10 t415.length co10], .int .i64 t418, .int .i64 t419] ?_; (with_reducible refine (spec_NearWalk.calls k t414 _ _ t415 t418 t419 t425 t428 _ ?side1 ?side2 A5.out).mono ?_); (case side1 => exact nc_ (rR3 HO417.out).2.2); (case side2 => exact (rR3 HO417.out).2.1); rintro e w13 ⟨v426, rfl, ho0, hb⟩; refine ⟨_, rfl, ?_⟩; have HO427 := Aside0.mk (Kd.R_lower (Kd.R_new' ho0 (Kd.R_lt (nr_ HO423.out))) (below_size (ne_ HB.out))); replace HO417 := kR_ HO417 hb; replace HO423 := Aside0.mk (Kd.R_elder' (nr_ HO423.out) (Kd.R_base ho0) hb); replace BK420 := kb_ BK420 hb; replace HB := kB_ HB hb; (try clear hb); (try clear hb2); (try clear hk); (try clear hi); (try clear ho0)))
  (try simp only [Act.put, List.setIfInBounds_toArray, List.set_cons_zero, List.set_cons_succ])
  go_cut [45] (fun v45 wc => ∃ (kq : Nat) (x45_5 : Bool), v45 = .bool x45_5 ∧ Aside0 (laws_FnNearWalk.j0 kq t418 t419 t421 t424 t425 t428 x45_5 t414 t415 = some r) ∧ Aside0 (kq ≤ k) ∧ Aside0 (Kd.R (Kd.int .i64) 3 wc w.heap.size (fun k_ => some k_ ≠ (v426 : Value).ownBlock) v422 t421) ∧ Aside0 (Kd.R (Kd.int .i64) 3 wc w.heap.size (fun k_ => some k_ ≠ (v422 : Value).ownBlock) v426 t425) ∧ Aside0 (Kd.R k47 47 wc w.heap.size (fun _ => True) (.slice Ao10 t415.length co10) t415) ∧ Aside0 (wc.heap[gb420]? = some (.cells #[.int .i64 t414, (.slice Ao10 t415.length co10)] 25 (0, 0))) ∧ Aside0 (Below w.heap.size w wc))
  case first =>
   have H := HC6.out
   clear HC6
   by_cases c14 : (t424 != t428) = true
   ·rw [if_pos c14] at H
    have c14b0 : (t424 != t428) = true := c14
    (try (have c14b1 : decide (t424 = t428) = false := by simpa using c14))
    (try (have c14b2 : (t424 == t428) = false := by simpa using c14))
    (try (have c14b3 : ¬ (t424 = t428) := by simpa using c14))
    clear c14
    (first | rw [c14b0] | (simp only [i64_w, i32_w]; rw [c14b0]) | skip)
    have H' := Aside0.mk H
    clear H
    go_wp2
    go_meet
    case rel => exact ⟨_, (true), ns_, H', ⟨by first | omega | exact Nat.le_refl _⟩, ⟨by (with_reducible repeat (first | apply Kd.R_alloc | apply Kd.R_drewN | apply Kd.R_drew)); exact Kd.R_mono HO423.out (fun _ hk => by first | exact hk.2 | trivial | simp_all)⟩, ⟨by (with_reducible repeat (first | apply Kd.R_alloc | apply Kd.R_drewN | apply Kd.R_drew)); exact Kd.R_mono HO427.out (fun _ hk => by first | exact hk.2 | trivial | simp_all)⟩, ⟨nr_ HO417.out⟩, ⟨nb_ BK420.out⟩, ⟨ne_ HB.out⟩⟩
   rw [if_neg c14] at H
   have c14b0 : (t424 != t428) = false := by simpa using c14
   (try (have c14b1 : decide (t424 = t428) = true := by simpa using c14))
   (try (have c14b2 : (t424 == t428) = true := by simpa using c14))
   clear c14
   (first | rw [c14b0] | (simp only [i64_w, i32_w]; rw [c14b0]) | skip)
   replace H := Option.bind_eq_some_iff.mp H
   obtain ⟨t429, A150, H⟩ := H
   try dsimp only at H
   have A15 := Aside0.mk A150
   clear A150
   by_cases c16 : t429 = true
   ·subst c16
    have H1 : (laws_FnNearWalk.j0 k t418 t419 t421 t424 t425 t428 (!t424) t414 t415) = some r := by rw [if_pos rfl] at H; exact H
    clear H
    have H := H1
    clear H1
    have H' := Aside0.mk H
    clear H
    obtain ⟨Ao17, co17, eo17⟩ := Kd.R_slice HO423.out
    subst eo17
    obtain ⟨Ao18, co18, eo18⟩ := Kd.R_slice HO427.out
    subst eo18
    go_wp2_with (first | (go_at_call 7; (with_reducible refine (laws_wkInts.calls k _ _ t421 _ _ t425 true _ ?side1 ?side2 ?side3 ?side4 A15.out).mono ?_); (case side1 => exact nc_ (rR3 HO423.out).2.2); (case side2 => exact (rR3 HO423.out).2.1); (case side3 => exact nc_ (rR3 HO427.out).2.2); (case side4 => exact (rR3 HO427.out).2.1); rintro e w' ⟨rfl, ⟨nd, rfl⟩⟩))
    go_meet
    case rel => exact ⟨_, (!t424), ns_, H', ⟨by first | omega | exact Nat.le_refl _⟩, ⟨by (with_reducible repeat (first | apply Kd.R_alloc | apply Kd.R_drewN | apply Kd.R_drew)); exact Kd.R_mono HO423.out (fun _ hk => by first | exact hk.2 | trivial | simp_all)⟩, ⟨by (with_reducible repeat (first | apply Kd.R_alloc | apply Kd.R_drewN | apply Kd.R_drew)); exact Kd.R_mono HO427.out (fun _ hk => by first | exact hk.2 | trivial | simp_all)⟩, ⟨nr_ HO417.out⟩, ⟨nb_ BK420.out⟩, ⟨ne_ HB.out⟩⟩
   replace c16 := Bool.eq_false_iff.mpr c16
   subst c16
   have H1 : (laws_FnNearWalk.j0 k t418 t419 t421 t424 t425 t428 true t414 t415) = some r := by rw [if_neg (show ¬ (false = true) by decide)] at H; exact H
   clear H
   have H := H1
   clear H1
   have H' := Aside0.mk H
   clear H
   obtain ⟨Ao19, co19, eo19⟩ := Kd.R_slice HO423.out
   subst eo19
   obtain ⟨Ao20, co20, eo20⟩ := Kd.R_slice HO427.out
   subst eo20
   go_wp2_with (first | (go_at_call 7; (with_reducible refine (laws_wkInts.calls k _ _ t421 _ _ t425 false _ ?side1 ?side2 ?side3 ?side4 A15.out).mono ?_); (case side1 => exact nc_ (rR3 HO423.out).2.2); (case side2 => exact (rR3 HO423.out).2.1); (case side3 => exact nc_ (rR3 HO427.out).2.2); (case side4 => exact (rR3 HO427.out).2.1); rintro e w' ⟨rfl, ⟨nd, rfl⟩⟩))
   go_meet
   case rel => exact ⟨_, (true), ns_, H', ⟨by first | omega | exact Nat.le_refl _⟩, ⟨by (with_reducible repeat (first | apply Kd.R_alloc | apply Kd.R_drewN | apply Kd.R_drew)); exact Kd.R_mono HO423.out (fun _ hk => by first | exact hk.2 | trivial | simp_all)⟩, ⟨by (with_reducible repeat (first | apply Kd.R_alloc | apply Kd.R_drewN | apply Kd.R_drew)); exact Kd.R_mono HO427.out (fun _ hk => by first | exact hk.2 | trivial | simp_all)⟩, ⟨nr_ HO417.out⟩, ⟨nb_ BK420.out⟩, ⟨ne_ HB.out⟩⟩
  case rest =>
   clear HC6
   try clear c2
   try clear c2b0
   try clear c2b1
   try clear hcz12_0
   try clear hcz12_1
   try clear hcz9_0
   try clear hcz9_1
   try clear hfz12_0
   try clear hfz12_1
   try clear hfz9_0
   try clear hfz9_1
   obtain ⟨kq, x45_5, rfl, HA, HJ5, HO_6, HO_8, HO_421001, BK420, HB⟩ := hcut
   cases kq with
   | zero => exact absurd HA.out (by simp [laws_FnNearWalk.j0])
   | succ kj5 =>
    have H := HA.out
    clear HA
    simp only [laws_FnNearWalk.j0] at H
    by_cases c21 : x45_5 = true
    ·subst c21
     rw [if_pos rfl] at H
     by_cases c22 : (t424 == t428) = true
     rotate_left
     ·rw [if_neg c22] at H
      have c22b0 : (t424 == t428) = false := by simpa using c22
      (try (have c22b1 : decide (t424 = t428) = false := by simpa using c22))
      (try (have c22b2 : (t424 == t428) = false := by simpa using c22))
      (try (have c22b3 : ¬ (t424 = t428) := by simpa using c22))
      clear c22
      obtain rfl := Option.some.inj H
      go_wp2
      go_ret
      exact ⟨nw_, ne_ HB.out⟩
     rw [if_pos c22] at H
     have c22b0 : (t424 == t428) = true := c22
     (try (have c22b1 : decide (t424 = t428) = true := by simpa using c22))
     (try (have c22b2 : (t424 == t428) = true := by simpa using c22))
     clear c22
     replace H := Option.bind_eq_some_iff.mp H
     obtain ⟨t430, A230, H⟩ := H
     replace H : (some t430) = some r := H
     have A23 := Aside0.mk A230
     clear A230
     obtain rfl := Option.some.inj H
     obtain ⟨Ao24, co24, eo24⟩ := Kd.R_slice HO_6.out
     subst eo24
     obtain ⟨Ao25, co25, eo25⟩ := Kd.R_slice HO_8.out
     subst eo25
     go_wp2_with (first | (go_at_call 7; (with_reducible refine (laws_wkInts.calls kj5 _ _ t421 _ _ t425 t430 _ ?side1 ?side2 ?side3 ?side4 A23.out).mono ?_); (case side1 => exact nc_ (rR3 HO_6.out).2.2); (case side2 => exact (rR3 HO_6.out).2.1); (case side3 => exact nc_ (rR3 HO_8.out).2.2); (case side4 => exact (rR3 HO_8.out).2.1); rintro e w' ⟨rfl, ⟨nd, rfl⟩⟩))
     go_ret
     exact ⟨nw_, ne_ HB.out⟩
    replace c21 := Bool.eq_false_iff.mpr c21
    subst c21
    have H1 : ((laws_wkEnds.f kj5 t414 t415 t421 t418 t419).bind fun t431 => (if t431 = true then ((impl_WalkCost.f kj5 t414 t415 t421).bind fun t432 => ((impl_NearAll.f kj5 t414 t415 t418).bind fun t433 => (if 0 ≤ t419 then (if t419 < (t433.length : Int) then (if t432 = (rd t433 t419) then ((impl_WalkPlain.f kj5 t414 t415 t421).bind fun t437 => ((laws_wkInts.f kj5 t437 t421).bind fun t440 => (some t440))) else (some false)) else (none)) else (none)))) else (some false))) = some r := by rw [if_neg (show ¬ (false = true) by decide)] at H; exact H
    clear H
    have H := H1
    clear H1
    replace H := Option.bind_eq_some_iff.mp H
    obtain ⟨t431, A260, H⟩ := H
    try dsimp only at H
    have A26 := Aside0.mk A260
    clear A260
    by_cases c27 : t431 = true
    rotate_left
    ·replace c27 := Bool.eq_false_iff.mpr c27
     subst c27
     have H1 : (some false) = some r := by rw [if_neg (show ¬ (false = true) by decide)] at H; exact H
     clear H
     have H := H1
     clear H1
     obtain rfl := Option.some.inj H
     try go_wp2
     replace HO_6 := Aside0.mk (Kd.R_drew HO_6.out)
     replace HO_8 := Aside0.mk (Kd.R_drew HO_8.out)
     replace HO_421001 := Aside0.mk (Kd.R_drew HO_421001.out)
     replace BK420 := Aside0.mk (blk_drew BK420.out)
     replace HB := Aside0.mk (below_drew1 HB.out)
     obtain ⟨Ao50, co50, eo50⟩ := Kd.R_slice HO_6.out
     (first | subst eo50 | (injection eo50 with f1_ f2_ f3_; have f4_ := f1_.symm; have f5_ := f3_.symm; clear f1_ f2_ f3_; subst f4_; subst f5_))
     refine start_ (n := 25) (S := fun w' => w'.cell? ⟨gb420, 0, none⟩ = some (.int .i64 t414) ∧ w'.cell? ⟨gb420, 1, none⟩ = some (.slice Ao10 t415.length co10)) (ds := []) z3_0 (by kernel_rfl) rfl rfl ⟨ct_ BK420.out 0, ct_ BK420.out 1⟩ (fun hHeld => ?_); refine with_tabW laws_FnNearWalk.tab8 laws_FnNearWalk.bits8 (fun HT_ HW_ => ?_)
     generalize wc.drew = w49 at HO_6 HO_8 HO_421001 BK420 HB hHeld ⊢
     refine pu_ 1 55 z3_1 HT_.out ?_
     refine pu_ 2 56 z3_2 HT_.out ?_
     refine pu_ 3 57 z3_3 HT_.out ?_
     refine tk_ 0 54 z3_4 HT_.out HW_.out hHeld ?_
     refine one_ (i := 4) (N := some 58) z3_5 rfl rfl (one_of HT_.out (by kernel_rfl)) (by decide) (fun K hK => ?_)
     refine go_ Try.func8 #[.agg #[.int .i64 t414, .slice Ao10 t415.length co10], .slice Ao50 t421.length co50, .int .i64 t418, .int .i64 t419] ?_
     with_reducible refine (laws_wkEnds.calls kj5 t414 _ _ t415 _ _ t421 t418 t419 false _ ?side1 ?side2 ?side3 ?side4 A26.out).mono ?_
     (case side1 => exact nc_ (rR3 HO_421001.out).2.2)
     (case side2 => exact (rR3 HO_421001.out).2.1)
     (case side3 => exact nc_ (rR3 HO_6.out).2.2)
     (case side4 => exact (rR3 HO_6.out).2.1)
     rintro e w51 ⟨rfl, hb⟩
     refine ⟨_, rfl, ?_⟩
     replace HO_6 := kR_ HO_6 hb
     replace HO_8 := kR_ HO_8 hb
     replace HO_421001 := kR_ HO_421001 hb
     replace BK420 := kb_ BK420 hb
     replace HB := kB_ HB hb
     (try clear hb)
     (try clear hb2)
     (try clear hk)
     (try clear hi)
     refine hK.out _ _ ⟨ct_ BK420.out 0, ct_ BK420.out 1⟩ (fun hHeld => ?_)
     clear hK K
     refine nm1_ (some 58) ?_
     refine pu_ 5 59 z3_6 HT_.out ?_
     refine un_ 6 60 (bm_ 25 127) HT_.out ?_
     refine un_ 7 61 (bm_ 25 255) HT_.out ?_
     refine un_ 8 62 (bm_ 25 511) HT_.out ?_
     refine un_ 9 63 (bm_ 25 1023) HT_.out ?_
     refine un_ 10 64 (bm_ 25 2047) HT_.out ?_
     refine un_ 11 65 (bm_ 25 4095) HT_.out ?_
     refine un_ 12 66 z3_13 HT_.out ?_
     refine un_ 13 67 z3_14 HT_.out ?_
     refine un_ 14 68 z3_15 HT_.out ?_
     refine un_ 15 69 z3_16 HT_.out ?_
     refine pu_ 16 70 z3_17 HT_.out ?_
     refine pu_ 17 71 z3_18 HT_.out ?_
     refine un_ 18 72 z3_23 HT_.out ?_
     refine un_ 19 73 z3_24 HT_.out ?_
     refine un_ 20 74 z3_25 HT_.out ?_
     refine un_ 21 75 z3_19 HT_.out ?_
     refine un_ 22 76 z3_20 HT_.out ?_
     refine pu_ 23 77 z3_21 HT_.out ?_
     refine pu_ 24 2 z3_22 HT_.out ?_
     refine done_ (done_of HT_.out (by kernel_rfl)) ?_
     try go_wp2
     go_ret
     exact ⟨nw_, ne_ HB.out⟩

    subst c27
    rw [if_pos rfl] at H
    replace H := Option.bind_eq_some_iff.mp H
    obtain ⟨t432, A280, H⟩ := H
    try dsimp only at H
    have A28 := Aside0.mk A280
    clear A280
    replace H := Option.bind_eq_some_iff.mp H
    obtain ⟨t433, A290, H⟩ := H
    try dsimp only at H
    have A29 := Aside0.mk A290
    clear A290
    by_cases c30 : 0 ≤ t419
    rotate_left
    ·rw [if_neg c30] at H
     exact absurd H (by simp)
    rw [if_pos c30] at H
    have c30b0 : decide (0 ≤ t419) = true := decide_eq_true c30
    clear c30
    by_cases c31 : t419 < (t433.length : Int)
    rotate_left
    ·rw [if_neg c31] at H
     exact absurd H (by simp)
    rw [if_pos c31] at H
    have c31b0 : decide (t419 < (t433.length : Int)) = true := decide_eq_true c31
    clear c31
    by_cases c32 : t432 = (rd t433 t419)
    rotate_left
    ·rw [if_neg c32] at H
     have c32b0 : (t432 == (rd t433 t419)) = false := beq_eq_false_iff_ne.mpr c32
     have c32b1 : (t432 != (rd t433 t419)) = true := bne_iff_ne.mpr c32
     obtain rfl := Option.some.inj H
     try go_wp2
     replace HO_6 := Aside0.mk (Kd.R_drew HO_6.out)
     replace HO_8 := Aside0.mk (Kd.R_drew HO_8.out)
     replace HO_421001 := Aside0.mk (Kd.R_drew HO_421001.out)
     replace BK420 := Aside0.mk (blk_drew BK420.out)
     replace HB := Aside0.mk (below_drew1 HB.out)
     obtain ⟨Ao44, co44, eo44⟩ := Kd.R_slice HO_6.out
     (first | subst eo44 | (injection eo44 with f1_ f2_ f3_; have f4_ := f1_.symm; have f5_ := f3_.symm; clear f1_ f2_ f3_; subst f4_; subst f5_))
     refine start_ (n := 25) (S := fun w' => w'.cell? ⟨gb420, 0, none⟩ = some (.int .i64 t414) ∧ w'.cell? ⟨gb420, 1, none⟩ = some (.slice Ao10 t415.length co10)) (ds := []) z3_0 (by kernel_rfl) rfl rfl ⟨ct_ BK420.out 0, ct_ BK420.out 1⟩ (fun hHeld => ?_); refine with_tabW laws_FnNearWalk.tab8 laws_FnNearWalk.bits8 (fun HT_ HW_ => ?_)
     generalize wc.drew = w43 at HO_6 HO_8 HO_421001 BK420 HB hHeld ⊢
     refine pu_ 1 55 z3_1 HT_.out ?_
     refine pu_ 2 56 z3_2 HT_.out ?_
     refine pu_ 3 57 z3_3 HT_.out ?_
     refine tk_ 0 54 z3_4 HT_.out HW_.out hHeld ?_
     refine one_ (i := 4) (N := some 58) z3_5 rfl rfl (one_of HT_.out (by kernel_rfl)) (by decide) (fun K hK => ?_)
     refine go_ Try.func8 #[.agg #[.int .i64 t414, .slice Ao10 t415.length co10], .slice Ao44 t421.length co44, .int .i64 t418, .int .i64 t419] ?_
     with_reducible refine (laws_wkEnds.calls kj5 t414 _ _ t415 _ _ t421 t418 t419 true _ ?side1 ?side2 ?side3 ?side4 A26.out).mono ?_
     (case side1 => exact nc_ (rR3 HO_421001.out).2.2)
     (case side2 => exact (rR3 HO_421001.out).2.1)
     (case side3 => exact nc_ (rR3 HO_6.out).2.2)
     (case side4 => exact (rR3 HO_6.out).2.1)
     rintro e w45 ⟨rfl, hb⟩
     refine ⟨_, rfl, ?_⟩
     replace HO_6 := kR_ HO_6 hb
     replace HO_8 := kR_ HO_8 hb
     replace HO_421001 := kR_ HO_421001 hb
     replace BK420 := kb_ BK420 hb
     replace HB := kB_ HB hb
     (try clear hb)
     (try clear hb2)
     (try clear hk)
     (try clear hi)
     refine hK.out _ _ ⟨ct_ BK420.out 0, ct_ BK420.out 1⟩ (fun hHeld => ?_)
     clear hK K
     refine nm1_ (some 58) ?_
     refine pu_ 5 59 z3_6 HT_.out ?_
     refine pu_ 7 61 z3_7 HT_.out ?_
     refine pu_ 10 64 z3_8 HT_.out ?_
     refine pu_ 12 66 z3_9 HT_.out ?_
     refine tk_ 6 60 z3_10 HT_.out HW_.out hHeld ?_
     refine tk_ 9 63 z3_11 HT_.out HW_.out hHeld ?_
     refine one_ (i := 8) (N := some 62) z3_12 rfl rfl (one_of HT_.out (by kernel_rfl)) (by decide) (fun K hK => ?_)
     refine go_ Try.func9 #[.agg #[.int .i64 t414, .slice Ao10 t415.length co10], .slice Ao44 t421.length co44] ?_
     with_reducible refine (impl_WalkCost.calls kj5 t414 _ _ t415 _ _ t421 t432 _ ?side1 ?side2 ?side3 ?side4 A28.out).mono ?_
     (case side1 => exact nc_ (rR3 HO_421001.out).2.2)
     (case side2 => exact (rR3 HO_421001.out).2.1)
     (case side3 => exact nc_ (rR3 HO_6.out).2.2)
     (case side4 => exact (rR3 HO_6.out).2.1)
     rintro e w46 ⟨rfl, hb⟩
     refine ⟨_, rfl, ?_⟩
     replace HO_6 := kR_ HO_6 hb
     replace HO_8 := kR_ HO_8 hb
     replace HO_421001 := kR_ HO_421001 hb
     replace BK420 := kb_ BK420 hb
     replace HB := kB_ HB hb
     (try clear hb)
     (try clear hb2)
     (try clear hk)
     (try clear hi)
     refine hK.out _ _ ⟨ct_ BK420.out 0, ct_ BK420.out 1⟩ (fun hHeld => ?_)
     clear hK K
     refine nm1_ (some 62) ?_
     refine one_ (i := 11) (N := some 65) z3_13 rfl rfl (one_of HT_.out (by kernel_rfl)) (by decide) (fun K hK => ?_)
     refine go_ Try.func10 #[.agg #[.int .i64 t414, .slice Ao10 t415.length co10], .int .i64 t418] ?_
     with_reducible refine (impl_NearAll.calls kj5 t414 _ _ t415 t418 t433 _ ?side1 ?side2 A29.out).mono ?_
     (case side1 => exact nc_ (rR3 HO_421001.out).2.2)
     (case side2 => exact (rR3 HO_421001.out).2.1)
     rintro e w47 ⟨v434, rfl, ho0, hb⟩
     refine ⟨_, rfl, ?_⟩
     replace HO_421001 := kR_ HO_421001 hb
     have HO435 := Aside0.mk (Kd.R_lower (Kd.R_new' (Kd.R_new' ho0 (Kd.R_lt (nr_ HO_6.out))) (Kd.R_lt (nr_ HO_8.out))) (below_size (ne_ HB.out)))
     replace HO_6 := Aside0.mk (Kd.R_elder' (nr_ HO_6.out) (Kd.R_base ho0) hb)
     replace HO_8 := Aside0.mk (Kd.R_elder' (nr_ HO_8.out) (Kd.R_base ho0) hb)
     replace BK420 := kb_ BK420 hb
     replace HB := kB_ HB hb
     (try clear hb)
     (try clear hb2)
     (try clear hk)
     (try clear hi)
     (try clear ho0)
     obtain ⟨Ao48, co48, eo48⟩ := Kd.R_slice HO435.out
     (first | subst eo48 | (injection eo48 with f1_ f2_ f3_; have f4_ := f1_.symm; have f5_ := f3_.symm; clear f1_ f2_ f3_; subst f4_; subst f5_))
     have p436 : 0 ≤ (t419 : Int) := of_decide_eq_true nx_
     have q436 : t419 < (t433.length : Int) := of_decide_eq_true nx_
     obtain ⟨ad436, e436, hx436_0⟩ := Kd.at_int (rR3 HO435.out).2.2 t419 p436 q436
     cases e436
     replace p436 := eq_true p436
     replace q436 := eq_true q436
     refine hK.out _ _ ⟨ct_ BK420.out 0, ct_ BK420.out 1⟩ (fun hHeld => ?_)
     clear hK K
     refine nm1_ (some 65) ?_
     refine pu_ 13 67 z3_14 HT_.out ?_
     refine one_ (i := 14) (N := some 68) z3_15 rfl rfl (one_of HT_.out (by kernel_rfl)) (by decide) (fun K hK => ?_)
     refine value_ (w1 := ?_) (v := ?_) (by rfl) rfl ?_ ?_
     rotate_left 2
     ·go_simp
      constructor
      ·rfl
      ·rfl
     refine hK.out _ _ hHeld (fun hHeld => ?_)
     clear hK K
     refine nm1_ (some 68) ?_
     refine pu_ 15 69 z3_16 HT_.out ?_
     refine pu_ 16 70 z3_17 HT_.out ?_
     refine pu_ 17 71 z3_18 HT_.out ?_
     refine un_ 18 72 z3_23 HT_.out ?_
     refine un_ 19 73 z3_24 HT_.out ?_
     refine un_ 20 74 z3_25 HT_.out ?_
     refine un_ 21 75 z3_19 HT_.out ?_
     refine un_ 22 76 z3_20 HT_.out ?_
     refine pu_ 23 77 z3_21 HT_.out ?_
     refine pu_ 24 2 z3_22 HT_.out ?_
     refine done_ (done_of HT_.out (by kernel_rfl)) ?_
     try go_wp2
     go_ret
     exact ⟨nw_, ne_ HB.out⟩
    rw [if_pos c32] at H
    have c32b0 : (t432 == (rd t433 t419)) = true := beq_iff_eq.mpr c32
    have c32b1 : (t432 != (rd t433 t419)) = false := bne_eq_false_iff_eq.mpr c32
    clear c32
    replace H := Option.bind_eq_some_iff.mp H
    obtain ⟨t437, A330, H⟩ := H
    replace H : ((laws_wkInts.f kj5 t437 t421).bind fun t440 => (some t440)) = some r := H
    have A33 := Aside0.mk A330
    clear A330
    replace H := Option.bind_eq_some_iff.mp H
    obtain ⟨t440, A340, H⟩ := H
    replace H : (some t440) = some r := H
    have A34 := Aside0.mk A340
    clear A340
    obtain rfl := Option.some.inj H
    try go_wp2
    replace HO_6 := Aside0.mk (Kd.R_drew HO_6.out)
    replace HO_8 := Aside0.mk (Kd.R_drew HO_8.out)
    replace HO_421001 := Aside0.mk (Kd.R_drew HO_421001.out)
    replace BK420 := Aside0.mk (blk_drew BK420.out)
    replace HB := Aside0.mk (below_drew1 HB.out)
    obtain ⟨Ao36, co36, eo36⟩ := Kd.R_slice HO_6.out
    (first | subst eo36 | (injection eo36 with f1_ f2_ f3_; have f4_ := f1_.symm; have f5_ := f3_.symm; clear f1_ f2_ f3_; subst f4_; subst f5_))
    refine start_ (n := 25) (S := fun w' => w'.cell? ⟨gb420, 0, none⟩ = some (.int .i64 t414) ∧ w'.cell? ⟨gb420, 1, none⟩ = some (.slice Ao10 t415.length co10)) (ds := []) z3_0 (by kernel_rfl) rfl rfl ⟨ct_ BK420.out 0, ct_ BK420.out 1⟩ (fun hHeld => ?_); refine with_tabW laws_FnNearWalk.tab8 laws_FnNearWalk.bits8 (fun HT_ HW_ => ?_)
    generalize wc.drew = w35 at HO_6 HO_8 HO_421001 BK420 HB hHeld ⊢
    refine pu_ 1 55 z3_1 HT_.out ?_
    refine pu_ 2 56 z3_2 HT_.out ?_
    refine pu_ 3 57 z3_3 HT_.out ?_
    refine tk_ 0 54 z3_4 HT_.out HW_.out hHeld ?_
    refine one_ (i := 4) (N := some 58) z3_5 rfl rfl (one_of HT_.out (by kernel_rfl)) (by decide) (fun K hK => ?_)
    refine go_ Try.func8 #[.agg #[.int .i64 t414, .slice Ao10 t415.length co10], .slice Ao36 t421.length co36, .int .i64 t418, .int .i64 t419] ?_
    with_reducible refine (laws_wkEnds.calls kj5 t414 _ _ t415 _ _ t421 t418 t419 true _ ?side1 ?side2 ?side3 ?side4 A26.out).mono ?_
    (case side1 => exact nc_ (rR3 HO_421001.out).2.2)
    (case side2 => exact (rR3 HO_421001.out).2.1)
    (case side3 => exact nc_ (rR3 HO_6.out).2.2)
    (case side4 => exact (rR3 HO_6.out).2.1)
    rintro e w37 ⟨rfl, hb⟩
    refine ⟨_, rfl, ?_⟩
    replace HO_6 := kR_ HO_6 hb
    replace HO_8 := kR_ HO_8 hb
    replace HO_421001 := kR_ HO_421001 hb
    replace BK420 := kb_ BK420 hb
    replace HB := kB_ HB hb
    (try clear hb)
    (try clear hb2)
    (try clear hk)
    (try clear hi)
    refine hK.out _ _ ⟨ct_ BK420.out 0, ct_ BK420.out 1⟩ (fun hHeld => ?_)
    clear hK K
    refine nm1_ (some 58) ?_
    refine pu_ 5 59 z3_6 HT_.out ?_
    refine pu_ 7 61 z3_7 HT_.out ?_
    refine pu_ 10 64 z3_8 HT_.out ?_
    refine pu_ 12 66 z3_9 HT_.out ?_
    refine tk_ 6 60 z3_10 HT_.out HW_.out hHeld ?_
    refine tk_ 9 63 z3_11 HT_.out HW_.out hHeld ?_
    refine one_ (i := 8) (N := some 62) z3_12 rfl rfl (one_of HT_.out (by kernel_rfl)) (by decide) (fun K hK => ?_)
    refine go_ Try.func9 #[.agg #[.int .i64 t414, .slice Ao10 t415.length co10], .slice Ao36 t421.length co36] ?_
    with_reducible refine (impl_WalkCost.calls kj5 t414 _ _ t415 _ _ t421 t432 _ ?side1 ?side2 ?side3 ?side4 A28.out).mono ?_
    (case side1 => exact nc_ (rR3 HO_421001.out).2.2)
    (case side2 => exact (rR3 HO_421001.out).2.1)
    (case side3 => exact nc_ (rR3 HO_6.out).2.2)
    (case side4 => exact (rR3 HO_6.out).2.1)
    rintro e w38 ⟨rfl, hb⟩
    refine ⟨_, rfl, ?_⟩
    replace HO_6 := kR_ HO_6 hb
    replace HO_8 := kR_ HO_8 hb
    replace HO_421001 := kR_ HO_421001 hb
    replace BK420 := kb_ BK420 hb
    replace HB := kB_ HB hb
    (try clear hb)
    (try clear hb2)
    (try clear hk)
    (try clear hi)
    refine hK.out _ _ ⟨ct_ BK420.out 0, ct_ BK420.out 1⟩ (fun hHeld => ?_)
    clear hK K
    refine nm1_ (some 62) ?_
    refine one_ (i := 11) (N := some 65) z3_13 rfl rfl (one_of HT_.out (by kernel_rfl)) (by decide) (fun K hK => ?_)
    refine go_ Try.func10 #[.agg #[.int .i64 t414, .slice Ao10 t415.length co10], .int .i64 t418] ?_
    with_reducible refine (impl_NearAll.calls kj5 t414 _ _ t415 t418 t433 _ ?side1 ?side2 A29.out).mono ?_
    (case side1 => exact nc_ (rR3 HO_421001.out).2.2)
    (case side2 => exact (rR3 HO_421001.out).2.1)
    rintro e w39 ⟨v434, rfl, ho0, hb⟩
    refine ⟨_, rfl, ?_⟩
    replace HO_421001 := kR_ HO_421001 hb
    have HO435 := Aside0.mk (Kd.R_lower (Kd.R_new' (Kd.R_new' ho0 (Kd.R_lt (nr_ HO_6.out))) (Kd.R_lt (nr_ HO_8.out))) (below_size (ne_ HB.out)))
    replace HO_6 := Aside0.mk (Kd.R_elder' (nr_ HO_6.out) (Kd.R_base ho0) hb)
    replace HO_8 := Aside0.mk (Kd.R_elder' (nr_ HO_8.out) (Kd.R_base ho0) hb)
    replace BK420 := kb_ BK420 hb
    replace HB := kB_ HB hb
    (try clear hb)
    (try clear hb2)
    (try clear hk)
    (try clear hi)
    (try clear ho0)
    obtain ⟨Ao40, co40, eo40⟩ := Kd.R_slice HO435.out
    (first | subst eo40 | (injection eo40 with f1_ f2_ f3_; have f4_ := f1_.symm; have f5_ := f3_.symm; clear f1_ f2_ f3_; subst f4_; subst f5_))
    have p436 : 0 ≤ (t419 : Int) := of_decide_eq_true nx_
    have q436 : t419 < (t433.length : Int) := of_decide_eq_true nx_
    obtain ⟨ad436, e436, hx436_0⟩ := Kd.at_int (rR3 HO435.out).2.2 t419 p436 q436
    cases e436
    replace p436 := eq_true p436
    replace q436 := eq_true q436
    refine hK.out _ _ ⟨ct_ BK420.out 0, ct_ BK420.out 1⟩ (fun hHeld => ?_)
    clear hK K
    refine nm1_ (some 65) ?_
    refine pu_ 13 67 z3_14 HT_.out ?_
    refine one_ (i := 14) (N := some 68) z3_15 rfl rfl (one_of HT_.out (by kernel_rfl)) (by decide) (fun K hK => ?_)
    refine value_ (w1 := ?_) (v := ?_) (by rfl) rfl ?_ ?_
    rotate_left 2
    ·go_simp
     constructor
     ·rfl
     ·rfl
    refine hK.out _ _ hHeld (fun hHeld => ?_)
    clear hK K
    refine nm1_ (some 68) ?_
    refine pu_ 15 69 z3_16 HT_.out ?_
    refine pu_ 16 70 z3_17 HT_.out ?_
    refine pu_ 17 71 z3_18 HT_.out ?_
    refine pu_ 19 73 (bm_ 25 786431) HT_.out ?_
    refine pu_ 21 75 (bm_ 25 2883583) HT_.out ?_
    refine tk_ 18 72 (bm_ 25 3145727) HT_.out HW_.out hHeld ?_
    refine one_ (i := 20) (N := some 74) z3_19 rfl rfl (one_of HT_.out (by kernel_rfl)) (by decide) (fun K hK => ?_)
    refine go_ Try.func11 #[.agg #[.int .i64 t414, .slice Ao10 t415.length co10], .slice Ao36 t421.length co36] ?_
    with_reducible refine (impl_WalkPlain.calls kj5 t414 _ _ t415 _ _ t421 t437 _ ?side1 ?side2 ?side3 ?side4 A33.out).mono ?_
    (case side1 => exact nc_ (rR3 HO_421001.out).2.2)
    (case side2 => exact (rR3 HO_421001.out).2.1)
    (case side3 => exact nc_ (rR3 HO_6.out).2.2)
    (case side4 => exact (rR3 HO_6.out).2.1)
    rintro e w41 ⟨v438, rfl, ho0, hb⟩
    refine ⟨_, rfl, ?_⟩
    replace HO_421001 := kR_ HO_421001 hb
    have HO439 := Aside0.mk (Kd.R_lower (Kd.R_new' (Kd.R_new' (Kd.R_new' ho0 (Kd.R_lt (nr_ HO_6.out))) (Kd.R_lt (nr_ HO_8.out))) (Kd.R_lt (nr_ HO435.out))) (below_size (ne_ HB.out)))
    replace HO_6 := Aside0.mk (Kd.R_elder' (nr_ HO_6.out) (Kd.R_base ho0) hb)
    replace HO_8 := Aside0.mk (Kd.R_elder' (nr_ HO_8.out) (Kd.R_base ho0) hb)
    replace HO435 := Aside0.mk (Kd.R_elder' (nr_ HO435.out) (Kd.R_base ho0) hb)
    replace BK420 := kb_ BK420 hb
    replace HB := kB_ HB hb
    (try clear hb)
    (try clear hb2)
    (try clear hk)
    (try clear hi)
    (try clear ho0)
    obtain ⟨Ao42, co42, eo42⟩ := Kd.R_slice HO439.out
    (first | subst eo42 | (injection eo42 with f1_ f2_ f3_; have f4_ := f1_.symm; have f5_ := f3_.symm; clear f1_ f2_ f3_; subst f4_; subst f5_))
    refine hK.out _ _ ⟨ct_ BK420.out 0, ct_ BK420.out 1⟩ (fun hHeld => ?_)
    clear hK K
    refine nm1_ (some 74) ?_
    refine one_ (i := 22) (N := some 76) z3_20 rfl rfl (one_of HT_.out (by kernel_rfl)) (by decide) (fun K hK => ?_)
    refine go_ Try.func7 #[.slice Ao42 t437.length co42, .slice Ao36 t421.length co36] ?_
    with_reducible refine (laws_wkInts.calls kj5 _ _ t437 _ _ t421 t440 _ ?side1 ?side2 ?side3 ?side4 A34.out).mono ?_
    (case side1 => exact nc_ (rR3 HO439.out).2.2)
    (case side2 => exact (rR3 HO439.out).2.1)
    (case side3 => exact nc_ (rR3 HO_6.out).2.2)
    (case side4 => exact (rR3 HO_6.out).2.1)
    rintro e w' ⟨rfl, ⟨nd, rfl⟩⟩
    refine ⟨_, rfl, ?_⟩
    refine hK.out _ _ ⟨ct_ BK420.out 0, ct_ BK420.out 1⟩ (fun hHeld => ?_)
    clear hK K
    refine nm1_ (some 76) ?_
    refine pu_ 23 77 z3_21 HT_.out ?_
    refine pu_ 24 2 z3_22 HT_.out ?_
    refine done_ (done_of HT_.out (by kernel_rfl)) ?_
    try go_wp2
    go_ret
    exact ⟨nw_, ne_ HB.out⟩
/-- THE ONE PURE STATEMENT of laws_FnNearWalk: yours. -/
def laws_FnNearWalk.Pure : Prop := ∀ (l0 : List Int), l0.length ≤ maxLen → l0.length * 1 ≤ 140737488351232 → (∀ x ∈ l0, (Lit.int .u8 x).wf = true) → ∃ k, laws_FnNearWalk.f k l0 = some true
theorem laws_FnNearWalk.walk (P : laws_FnNearWalk.Pure) (a0 : Option Addr) (len0 cap0 : Nat) (z0 : List Int) (w : World) (w0 : (a0 = none ∧ len0 = 0 ∧ cap0 = 0 ∧ z0 = []) ∨ ∃ x, a0 = some x ∧ len0 ≤ cap0 ∧ cap0 ≤ maxLen ∧ z0.length = cap0 ∧ (∀ i, i < z0.length → w.cell? (x.add i) = some (.int .u8 (z0.getD i 0))) ∧ ∀ n ∈ z0, (Lit.int .u8 n).wf = true) (y0 : len0 * 1 ≤ 140737488351232) :
    Calls Try.prog 3 #[.slice a0 len0 cap0] w fun e w' => e = .returned (.bool true) ∧ Below w.heap.size w w' := by
  obtain ⟨l0, rfl, hr0, hm0, hw0, hc0⟩ := ReadsInt.ofRowC w0
  obtain ⟨k, h⟩ := P l0 hm0 y0 hw0
  refine (laws_FnNearWalk.calls k _ _ l0 true w (Kd.C_of_reads (d := (0 : Int)) (h1 := fun _ => rfl) hr0) hc0 h).mono ?_
  rintro e w' ⟨rfl, hd⟩
  exact ⟨rfl, hd⟩

end Go.Proofs.Ytgnnimhhkbbfiaa.Print
