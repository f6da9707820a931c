-- Made by this session's own program (wip/patch_print.py, over the kit's print). Lean checks it.
import Derived.Test.YtcfmejfmjjgoaaaPrint0
import Derived.Test.YtcfmejfmjjgoaaaPrintF22
import Derived.Test.YtcfmejfmjjgoaaaPrintF23
import Derived.Test.YtcfmejfmjjgoaaaPrintF24
import Derived.Test.YtcfmejfmjjgoaaaPrintF30
namespace Go.Proofs.Ytcfmejfmjjgoaaa.Print
open Go.RowKit Go.Proofs.YtcfmejfmjjgoaaaW.PrintWords Go.Proofs.YtcfmejfmjjgoaaaW.PrintLast Go.Proofs.YtcfmejfmjjgoaaaW.PrintMore Go.Proofs.YtcfmejfmjjgoaaaX
attribute [local go_sem] max2_int min2_int max_two min_two max_three min_three max_four min_four   -- for this text's walks alone
set_option linter.unusedVariables false
set_option linter.unusedSimpArgs false

abbrev rR10 := @Kd.R_reads'
/-! ### laws_FnTurnBest: function 10 -/
def laws_FnTurnBest.j0 : Nat → List (S31) → List Int → Int → Bool → Int → List (S33) → Option (Bool)
  | 0, _, _, _, _, _, _ => none
  | k + 1, x4, x5, x6, x35, x950000, x950001 => if x35 = true then ((spec_TurnWalk.f k x950000 x950001 x4 x5).bind fun t952 => (some (x6 == t952))) else (if 0 < (x5.length : Int) then (if 0 ≤ (rd x5 0) then (if (rd x5 0) < (x950001.length : Int) then ((impl_TurnAll.f k x950000 x950001 x4 ((rd_T33 x950001 (rd x5 0)).f0)).bind fun t955 => (if 0 ≤ (wrap64 ((x5.length : Int) - 1)) then (if (wrap64 ((x5.length : Int) - 1)) < (x5.length : Int) then (if 0 ≤ (rd x5 (wrap64 ((x5.length : Int) - 1))) then (if (rd x5 (wrap64 ((x5.length : Int) - 1))) < (x950001.length : Int) then (if 0 ≤ ((rd_T33 x950001 (rd x5 (wrap64 ((x5.length : Int) - 1)))).f1) then (if ((rd_T33 x950001 (rd x5 (wrap64 ((x5.length : Int) - 1)))).f1) < (t955.length : Int) then (some (decide ((rd t955 ((rd_T33 x950001 (rd x5 (wrap64 ((x5.length : Int) - 1)))).f1)) ≤ x6))) else (none)) else (none)) else (none)) else (none)) else (none)) else (none))) else (none)) else (none)) else (none))
def laws_FnTurnBest.f (k : Nat) (l0 : List Int) : Option (Bool) := if (l0.length : Int) > 1048576 then (some true) else ((spec_DrawTurnWalk.f k l0).bind fun bt939 => ((impl_TurnWalk.f k bt939.1 bt939.2.1 bt939.2.2.1 bt939.2.2.2).bind fun t950 => ((spec_TurnWalk.f k bt939.1 bt939.2.1 bt939.2.2.1 bt939.2.2.2).bind fun t951 => (if t950 = t951 then (if t950 < 0 then (laws_FnTurnBest.j0 k bt939.2.2.1 bt939.2.2.2 t950 true bt939.1 bt939.2.1) else (laws_FnTurnBest.j0 k bt939.2.2.1 bt939.2.2.2 t950 ((bt939.2.2.2.length : Int) == 0) bt939.1 bt939.2.1)) else (laws_FnTurnBest.j0 k bt939.2.2.1 bt939.2.2.2 t950 true bt939.1 bt939.2.1)))))
def laws_FnTurnBest.T7 : Bool × List (List Nat × List Nat) := (true, [([], []), ([0], [0]), ([], []), ([2], [2]), ([3], [3]), ([1, 4], [1, 4]), ([5], [5]), ([6], [6]), ([7, 0, 1, 2, 3, 4, 5, 6, 7], [7])])
def laws_FnTurnBest.B7 : List Nat := [0, 1, 0, 4, 12, 31, 63, 127, 255]
theorem laws_FnTurnBest.tab7 : rtab .any (opsOf Try.f10 7) = laws_FnTurnBest.T7 := by kernel_rfl
theorem laws_FnTurnBest.bits7 : waitsOk laws_FnTurnBest.T7.2 laws_FnTurnBest.B7 = true := by kernel_rfl
def laws_FnTurnBest.T8 : Bool × List (List Nat × List Nat) := (true, [([], []), ([], []), ([], []), ([0, 1, 2], [0, 1, 2]), ([], []), ([4], [4]), ([], []), ([], []), ([7], [7]), ([8], [8]), ([6, 9], [6, 9]), ([10], [10]), ([5, 11], [5, 11]), ([12], [12]), ([13], [13]), ([3, 14], [3, 14]), ([15], [15]), ([], []), ([16, 17], [16, 17]), ([18, 3, 0, 1, 2, 3, 4, 5, 6, 7, 8, 9, 10, 11, 12, 13, 14, 15, 16, 17, 18], [18])])
def laws_FnTurnBest.B8 : List Nat := [0, 0, 0, 7, 0, 16, 0, 0, 128, 384, 960, 1984, 4080, 8176, 16368, 32767, 65535, 0, 262143, 524287]
theorem laws_FnTurnBest.tab8 : rtab .any (opsOf Try.f10 8) = laws_FnTurnBest.T8 := by kernel_rfl
theorem laws_FnTurnBest.bits8 : waitsOk laws_FnTurnBest.T8.2 laws_FnTurnBest.B8 = true := by kernel_rfl
set_option maxHeartbeats 200000000 in
set_option maxRecDepth 100000 in
theorem laws_FnTurnBest.calls (k : Nat) (A0 : Option Addr) (c0 : Nat) (l0 : List Int) (r : Bool) (w : World) (hr0 : Kd.C (Kd.int .u8) w A0 l0.length l0) (hc0 : l0.length ≤ c0) (h : laws_FnTurnBest.f k l0 = some r) :
    Calls Try.prog 10 #[.slice A0 l0.length c0] w fun e w' => e = .returned (.bool r) ∧ Below w.heap.size w w' := by
  have hu25 := Try.underlying25
  have HR0 := Aside0.mk hr0
  have HC0 := Aside0.mk hc0
  clear hr0 hc0
  have HB := Aside0.mk (Below.refl w.heap.size w)
  have H : (if (l0.length : Int) > 1048576 then (some true) else ((spec_DrawTurnWalk.f k l0).bind fun bt939 => ((impl_TurnWalk.f k bt939.1 bt939.2.1 bt939.2.2.1 bt939.2.2.2).bind fun t950 => ((spec_TurnWalk.f k bt939.1 bt939.2.1 bt939.2.2.1 bt939.2.2.2).bind fun t951 => (if t950 = t951 then (if t950 < 0 then (laws_FnTurnBest.j0 k bt939.2.2.1 bt939.2.2.2 t950 true bt939.1 bt939.2.1) else (laws_FnTurnBest.j0 k bt939.2.2.1 bt939.2.2.2 t950 ((bt939.2.2.2.length : Int) == 0) bt939.1 bt939.2.1)) else (laws_FnTurnBest.j0 k bt939.2.2.1 bt939.2.2.2 t950 true bt939.1 bt939.2.1)))))) = some r := h
  clear h
  by_cases c2 : (l0.length : Int) > 1048576
  ·rw [if_pos c2] at H
   have c2b0 : decide (1048576 < (l0.length : Int)) = true := decide_eq_true c2
   have c2b1 : decide (1048576 < l0.length) = true := decide_eq_true (by omega)
   clear c2
   obtain rfl := Option.some.inj H
   go_enter Try.func10, Try.ntmps10
   go_wp2
   go_ret
   exact ⟨nw_, ne_ HB.out⟩
  rw [if_neg c2] at H
  have c2b0 : decide (1048576 < (l0.length : Int)) = false := decide_eq_false c2
  have c2b1 : decide (1048576 < l0.length) = false := decide_eq_false (by omega)
  clear c2
  replace H := Option.bind_eq_some_iff.mp H
  obtain ⟨⟨t939, t940, t943, t946⟩, A30, H⟩ := H
  try dsimp only at H
  have A3 := Aside0.mk A30
  clear A30
  replace H := Option.bind_eq_some_iff.mp H
  obtain ⟨t950, A40, H⟩ := H
  try dsimp only at H
  have A4 := Aside0.mk A40
  clear A40
  have HC5 := Aside0.mk H
  clear H
  go_enter Try.func10, Try.ntmps10
  go_upto_region 5 with (first | ((with_reducible refine gate_callee (f := 22) rfl ?_); refine gl_ (some 13) Try.func22 #[.slice A0 l0.length c0] ?_; (with_reducible refine (spec_DrawTurnWalk.calls k _ _ l0 t939 t940 t943 t946 _ ?side1 ?side2 A3.out).mono ?_); (case side1 => repeat (first | exact HR0.out | (with_reducible refine Kd.C_alloc ?_ _) | (with_reducible refine Kd.C_drewN ?_ _) | (with_reducible refine Kd.C_drew ?_))); (case side2 => exact HC0.out); rintro e w6 ⟨v941, v944, v947, rfl, ho0, ho1, ho2, hb⟩; refine ⟨_, rfl, ?_⟩; have HO942 := Aside0.mk (Kd.R_lower ho0 (below_size (ne_ HB.out))); have HO945 := Aside0.mk (Kd.R_lower ho1 (below_size (ne_ HB.out))); have HO948 := Aside0.mk (Kd.R_lower ho2 (below_size (ne_ HB.out))); replace HB := kB_ HB hb; (try clear hb); (try clear hb2); (try clear hk); (try clear hi); (try clear ho0); (try clear ho1); (try clear ho2)) | ((with_reducible refine gate_dst (N := 3) rfl ?_); (try (refine gate_guard (by rfl) ?_; dsimp only)); refine bx_ 3 #[.int .i64 0, .slice none 0 0] 25 ?_; intro gb949 hg w7 hbox hb; have BK949 := Aside0.mk (hbox); have GW949 := Aside0.mk (zs_ hg (ne_ HB.out)); have GE949 := Aside0.mk (zs_ hg (ne_ HB.out)); replace HO942 := kR_ HO942 hb; replace HO945 := kR_ HO945 hb; replace HO948 := kR_ HO948 hb; replace HB := kB_ HB hb; clear hb hbox hg; obtain ⟨hcz8_0, hcz8_1, hfz8_0, hfz8_1⟩ := cz2_ BK949.out; obtain ⟨Ao9, co9, eo9⟩ := Kd.R_slice HO942.out; subst eo9; obtain ⟨Ao10, co10, eo10⟩ := Kd.R_slice HO945.out; subst eo10; obtain ⟨Ao11, co11, eo11⟩ := Kd.R_slice HO948.out; subst eo11) | ((with_reducible refine gate_callee (f := 23) rfl ?_); refine gl_ (some 20) Try.func23 #[.agg #[.int .i64 t939, .slice Ao9 t940.length co9], .slice Ao10 t943.length co10, .slice Ao11 t946.length co11] ?_; (with_reducible refine (impl_TurnWalk.calls k t939 _ _ t940 _ _ t943 _ _ t946 t950 _ ?side1 ?side2 ?side3 ?side4 ?side5 ?side6 A4.out).mono ?_); (case side1 => refine (rR10 (e := 33) (base := w.heap.size) (ok := fun k_ => True) (n := t940.length) (c := co9) ?_).2.2; exact (by (with_reducible repeat (first | apply Kd.R_alloc | apply Kd.R_drewN | apply Kd.R_drew)); exact (Kd.R_mono (rf2_ (Kd.R_types HO942.out BK949.out (by decide))) (fun _ h_ => h_.1)))); (case side2 => exact (rR10 HO942.out).2.1); (case side3 => refine (rR10 (e := 31) (base := w.heap.size) (ok := fun k_ => True) (n := t943.length) (c := co10) ?_).2.2; exact (by (with_reducible repeat (first | apply Kd.R_alloc | apply Kd.R_drewN | apply Kd.R_drew)); exact (Kd.R_mono (rf2_ (Kd.R_types HO945.out BK949.out (by decide))) (fun _ h_ => h_.1)))); (case side4 => exact (rR10 HO945.out).2.1); (case side5 => refine (rR10 (e := 3) (base := w.heap.size) (ok := fun k_ => True) (n := t946.length) (c := co11) ?_).2.2; exact (by (with_reducible repeat (first | apply Kd.R_alloc | apply Kd.R_drewN | apply Kd.R_drew)); exact (Kd.R_mono (rf2_ (Kd.R_types HO948.out BK949.out (by decide))) (fun _ h_ => h_.1)))); (case side6 => exact (rR10 HO948.out).2.1); rintro e w12 ⟨rfl, hb⟩; refine ⟨_, rfl, ?_⟩; replace HO942 := Aside0.mk (Kd.R_below (by (with_reducible repeat (first | apply Kd.R_alloc | apply Kd.R_drewN | apply Kd.R_drew)); exact (Kd.R_mono (rf2_ (Kd.R_types HO942.out BK949.out (by decide))) (fun _ h_ => h_.1))) hb); replace HO945 := Aside0.mk (Kd.R_below (by (with_reducible repeat (first | apply Kd.R_alloc | apply Kd.R_drewN | apply Kd.R_drew)); exact (Kd.R_mono (rf2_ (Kd.R_types HO945.out BK949.out (by decide))) (fun _ h_ => h_.1))) hb); replace HO948 := Aside0.mk (Kd.R_below (by (with_reducible repeat (first | apply Kd.R_alloc | apply Kd.R_drewN | apply Kd.R_drew)); exact (Kd.R_mono (rf2_ (Kd.R_types HO948.out BK949.out (by decide))) (fun _ h_ => h_.1))) hb); replace BK949 := Aside0.mk (blk_below (g := gb949) (o := .cells #[.int .i64 t939, .slice Ao9 t940.length co9] 25 (0, 0)) (np_ BK949.out) hb); replace HB := kB_ HB hb; (try clear hb); (try clear hb2); (try clear hk); (try clear hi)))
  (try simp only [Act.put, List.setIfInBounds_toArray, List.set_cons_zero, List.set_cons_succ])
  go_cut [35] (fun v35 wc => ∃ (kq : Nat) (x35_4 : Bool), v35 = .bool x35_4 ∧ Aside0 (laws_FnTurnBest.j0 kq t943 t946 t950 x35_4 t939 t940 = some r) ∧ Aside0 (kq ≤ k) ∧ Aside0 (Kd.R k31 31 wc w.heap.size (fun _ => True) (.slice Ao10 t943.length co10) t943) ∧ Aside0 (Kd.R (Kd.int .i64) 3 wc w.heap.size (fun _ => True) (.slice Ao11 t946.length co11) t946) ∧ Aside0 (Kd.R k33 33 wc w.heap.size (fun _ => True) (.slice Ao9 t940.length co9) t940) ∧ Aside0 (wc.heap[gb949]? = some (.cells #[.int .i64 t939, (.slice Ao9 t940.length co9)] 25 (0, 0))) ∧ Aside0 (Below w.heap.size w wc))
  case first =>
   have H := HC5.out
   clear HC5
   replace H := Option.bind_eq_some_iff.mp H
   obtain ⟨t951, A130, H⟩ := H
   try dsimp only at H
   have A13 := Aside0.mk A130
   clear A130
   by_cases c14 : t950 = t951
   rotate_left
   ·rw [if_neg c14] at H
    have c14b0 : (t950 == t951) = false := beq_eq_false_iff_ne.mpr c14
    have c14b1 : (t950 != t951) = true := bne_iff_ne.mpr c14
    (first | rw [c14b0] | (simp only [i64_w, i32_w]; rw [c14b0]) | skip)
    have H' := Aside0.mk H
    clear H
    obtain ⟨hcz20_0, hcz20_1, hfz20_0, hfz20_1⟩ := cz2_ BK949.out
    go_wp2_with (first | ((with_reducible refine gate_callee (f := 24) rfl ?_); refine gl_ (some 25) Try.func24 #[.agg #[.int .i64 t939, .slice Ao9 t940.length co9], .slice Ao10 t943.length co10, .slice Ao11 t946.length co11] ?_; (with_reducible refine (spec_TurnWalk.calls k t939 _ _ t940 _ _ t943 _ _ t946 t951 _ ?side1 ?side2 ?side3 ?side4 ?side5 ?side6 A13.out).mono ?_); (case side1 => exact nc_ (rR10 HO942.out).2.2); (case side2 => exact (rR10 HO942.out).2.1); (case side3 => exact nc_ (rR10 HO945.out).2.2); (case side4 => exact (rR10 HO945.out).2.1); (case side5 => exact nc_ (rR10 HO948.out).2.2); (case side6 => exact (rR10 HO948.out).2.1); rintro e w21 ⟨rfl, hb⟩; refine ⟨_, rfl, ?_⟩; replace HO942 := kR_ HO942 hb; replace HO945 := kR_ HO945 hb; replace HO948 := kR_ HO948 hb; replace BK949 := kb_ BK949 hb; replace HB := kB_ HB hb; (try clear hb); (try clear hb2); (try clear hk); (try clear hi)))
    go_meet
    case rel => exact ⟨_, (true), ns_, H', ⟨by first | omega | exact Nat.le_refl _⟩, ⟨nr_ HO945.out⟩, ⟨nr_ HO948.out⟩, ⟨nr_ HO942.out⟩, ⟨nb_ BK949.out⟩, ⟨ne_ HB.out⟩⟩
   rw [if_pos c14] at H
   have c14b0 : (t950 == t951) = true := beq_iff_eq.mpr c14
   have c14b1 : (t950 != t951) = false := bne_eq_false_iff_eq.mpr c14
   clear c14
   (first | rw [c14b0] | (simp only [i64_w, i32_w]; rw [c14b0]) | skip)
   by_cases c15 : t950 < 0
   ·rw [if_pos c15] at H
    have c15b0 : decide (t950 < 0) = true := decide_eq_true c15
    clear c15
    have H' := Aside0.mk H
    clear H
    obtain ⟨hcz16_0, hcz16_1, hfz16_0, hfz16_1⟩ := cz2_ BK949.out
    go_wp2_with (first | ((with_reducible refine gate_callee (f := 24) rfl ?_); refine gl_ (some 25) Try.func24 #[.agg #[.int .i64 t939, .slice Ao9 t940.length co9], .slice Ao10 t943.length co10, .slice Ao11 t946.length co11] ?_; (with_reducible refine (spec_TurnWalk.calls k t939 _ _ t940 _ _ t943 _ _ t946 t951 _ ?side1 ?side2 ?side3 ?side4 ?side5 ?side6 A13.out).mono ?_); (case side1 => exact nc_ (rR10 HO942.out).2.2); (case side2 => exact (rR10 HO942.out).2.1); (case side3 => exact nc_ (rR10 HO945.out).2.2); (case side4 => exact (rR10 HO945.out).2.1); (case side5 => exact nc_ (rR10 HO948.out).2.2); (case side6 => exact (rR10 HO948.out).2.1); rintro e w17 ⟨rfl, hb⟩; refine ⟨_, rfl, ?_⟩; replace HO942 := kR_ HO942 hb; replace HO945 := kR_ HO945 hb; replace HO948 := kR_ HO948 hb; replace BK949 := kb_ BK949 hb; replace HB := kB_ HB hb; (try clear hb); (try clear hb2); (try clear hk); (try clear hi)))
    go_meet
    case rel => exact ⟨_, (true), ns_, H', ⟨by first | omega | exact Nat.le_refl _⟩, ⟨nr_ HO945.out⟩, ⟨nr_ HO948.out⟩, ⟨nr_ HO942.out⟩, ⟨nb_ BK949.out⟩, ⟨ne_ HB.out⟩⟩
   rw [if_neg c15] at H
   have c15b0 : decide (t950 < 0) = false := decide_eq_false c15
   clear c15
   have H' := Aside0.mk H
   clear H
   obtain ⟨hcz18_0, hcz18_1, hfz18_0, hfz18_1⟩ := cz2_ BK949.out
   go_wp2_with (first | ((with_reducible refine gate_callee (f := 24) rfl ?_); refine gl_ (some 25) Try.func24 #[.agg #[.int .i64 t939, .slice Ao9 t940.length co9], .slice Ao10 t943.length co10, .slice Ao11 t946.length co11] ?_; (with_reducible refine (spec_TurnWalk.calls k t939 _ _ t940 _ _ t943 _ _ t946 t951 _ ?side1 ?side2 ?side3 ?side4 ?side5 ?side6 A13.out).mono ?_); (case side1 => exact nc_ (rR10 HO942.out).2.2); (case side2 => exact (rR10 HO942.out).2.1); (case side3 => exact nc_ (rR10 HO945.out).2.2); (case side4 => exact (rR10 HO945.out).2.1); (case side5 => exact nc_ (rR10 HO948.out).2.2); (case side6 => exact (rR10 HO948.out).2.1); rintro e w19 ⟨rfl, hb⟩; refine ⟨_, rfl, ?_⟩; replace HO942 := kR_ HO942 hb; replace HO945 := kR_ HO945 hb; replace HO948 := kR_ HO948 hb; replace BK949 := kb_ BK949 hb; replace HB := kB_ HB hb; (try clear hb); (try clear hb2); (try clear hk); (try clear hi)))
   go_meet
   case rel => exact ⟨_, (((t946.length : Int) == 0)), ns_, H', ⟨by first | omega | exact Nat.le_refl _⟩, ⟨nr_ HO945.out⟩, ⟨nr_ HO948.out⟩, ⟨nr_ HO942.out⟩, ⟨nb_ BK949.out⟩, ⟨ne_ HB.out⟩⟩
  case rest =>
   clear HC5
   try clear c2
   try clear c2b0
   try clear c2b1
   try clear hcz8_0
   try clear hcz8_1
   try clear hfz8_0
   try clear hfz8_1
   obtain ⟨kq, x35_4, rfl, HA, HJ4, HO_4, HO_5, HO_950001, BK949, HB⟩ := hcut
   cases kq with
   | zero => exact absurd HA.out (by simp [laws_FnTurnBest.j0])
   | succ kj4 =>
    have H := HA.out
    clear HA
    simp only [laws_FnTurnBest.j0] at H
    by_cases c22 : x35_4 = true
    ·subst c22
     rw [if_pos rfl] at H
     replace H := Option.bind_eq_some_iff.mp H
     obtain ⟨t952, A230, H⟩ := H
     replace H : (some (t950 == t952)) = some r := H
     have A23 := Aside0.mk A230
     clear A230
     obtain rfl := Option.some.inj H
     obtain ⟨hcz24_0, hcz24_1, hfz24_0, hfz24_1⟩ := cz2_ BK949.out
     go_wp2_with (first | ((with_reducible refine gate_callee (f := 24) rfl ?_); refine gl_ (some 40) Try.func24 #[.agg #[.int .i64 t939, .slice Ao9 t940.length co9], .slice Ao10 t943.length co10, .slice Ao11 t946.length co11] ?_; (with_reducible refine (spec_TurnWalk.calls kj4 t939 _ _ t940 _ _ t943 _ _ t946 t952 _ ?side1 ?side2 ?side3 ?side4 ?side5 ?side6 A23.out).mono ?_); (case side1 => exact nc_ (rR10 HO_950001.out).2.2); (case side2 => exact (rR10 HO_950001.out).2.1); (case side3 => exact nc_ (rR10 HO_4.out).2.2); (case side4 => exact (rR10 HO_4.out).2.1); (case side5 => exact nc_ (rR10 HO_5.out).2.2); (case side6 => exact (rR10 HO_5.out).2.1); rintro e w25 ⟨rfl, hb⟩; refine ⟨_, rfl, ?_⟩; replace HO_4 := kR_ HO_4 hb; replace HO_5 := kR_ HO_5 hb; replace HO_950001 := kR_ HO_950001 hb; replace BK949 := kb_ BK949 hb; replace HB := kB_ HB hb; (try clear hb); (try clear hb2); (try clear hk); (try clear hi)))
     go_ret
     exact ⟨nw_, ne_ HB.out⟩
    replace c22 := Bool.eq_false_iff.mpr c22
    subst c22
    have H1 : (if 0 < (t946.length : Int) then (if 0 ≤ (rd t946 0) then (if (rd t946 0) < (t940.length : Int) then ((impl_TurnAll.f kj4 t939 t940 t943 ((rd_T33 t940 (rd t946 0)).f0)).bind fun t955 => (if 0 ≤ (wrap64 ((t946.length : Int) - 1)) then (if (wrap64 ((t946.length : Int) - 1)) < (t946.length : Int) then (if 0 ≤ (rd t946 (wrap64 ((t946.length : Int) - 1))) then (if (rd t946 (wrap64 ((t946.length : Int) - 1))) < (t940.length : Int) then (if 0 ≤ ((rd_T33 t940 (rd t946 (wrap64 ((t946.length : Int) - 1)))).f1) then (if ((rd_T33 t940 (rd t946 (wrap64 ((t946.length : Int) - 1)))).f1) < (t955.length : Int) then (some (decide ((rd t955 ((rd_T33 t940 (rd t946 (wrap64 ((t946.length : Int) - 1)))).f1)) ≤ t950))) else (none)) else (none)) else (none)) else (none)) else (none)) else (none))) else (none)) else (none)) else (none)) = some r := by rw [if_neg (show ¬ (false = true) by decide)] at H; exact H
    clear H
    have H := H1
    clear H1
    by_cases c26 : 0 < (t946.length : Int)
    rotate_left
    ·rw [if_neg c26] at H
     exact absurd H (by simp)

    rw [if_pos c26] at H
    have c26b0 : decide (0 < (t946.length : Int)) = true := decide_eq_true c26
    have c26b1 : decide (0 < t946.length) = true := decide_eq_true (by omega)
    clear c26
    by_cases c27 : 0 ≤ (rd t946 0)
    rotate_left
    ·rw [if_neg c27] at H
     exact absurd H (by simp)
    rw [if_pos c27] at H
    have c27b0 : decide (0 ≤ (rd t946 0)) = true := decide_eq_true c27
    clear c27
    by_cases c28 : (rd t946 0) < (t940.length : Int)
    rotate_left
    ·rw [if_neg c28] at H
     exact absurd H (by simp)
    rw [if_pos c28] at H
    have c28b0 : decide ((rd t946 0) < (t940.length : Int)) = true := decide_eq_true c28
    clear c28
    replace H := Option.bind_eq_some_iff.mp H
    obtain ⟨t955, A290, H⟩ := H
    try dsimp only at H
    have A29 := Aside0.mk A290
    clear A290
    obtain ⟨ji30, hji30⟩ : ∃ j_ : Int, (wrap64 ((t946.length : Int) - 1)) = j_ := ⟨_, rfl⟩
    replace H : (if 0 ≤ (ji30) then (if (ji30) < (t946.length : Int) then (if 0 ≤ (rd t946 (ji30)) then (if (rd t946 (ji30)) < (t940.length : Int) then (if 0 ≤ ((rd_T33 t940 (rd t946 (ji30))).f1) then (if ((rd_T33 t940 (rd t946 (ji30))).f1) < (t955.length : Int) then (some (decide ((rd t955 ((rd_T33 t940 (rd t946 (ji30))).f1)) ≤ t950))) else (none)) else (none)) else (none)) else (none)) else (none)) else (none)) = some r := by first | (rw [hji30] at H; exact H) | (simp only [hji30] at H ⊢; exact H)
    (try rw [hji30] at A29)
    have hji30w : (IntKind.i64.wrap ((t946.length : Int) - 1)) = ji30 := (i64_w _).trans hji30
    by_cases c31 : 0 ≤ (ji30)
    rotate_left
    ·rw [if_neg c31] at H
     exact absurd H (by simp)
    rw [if_pos c31] at H
    have c31b0 : decide (0 ≤ (ji30)) = true := decide_eq_true c31
    clear c31
    by_cases c32 : (ji30) < (t946.length : Int)
    rotate_left
    ·rw [if_neg c32] at H
     exact absurd H (by simp)
    rw [if_pos c32] at H
    have c32b0 : decide ((ji30) < (t946.length : Int)) = true := decide_eq_true c32
    clear c32
    by_cases c33 : 0 ≤ (rd t946 (ji30))
    rotate_left
    ·rw [if_neg c33] at H
     exact absurd H (by simp)
    rw [if_pos c33] at H
    have c33b0 : decide (0 ≤ (rd t946 (ji30))) = true := decide_eq_true c33
    clear c33
    by_cases c34 : (rd t946 (ji30)) < (t940.length : Int)
    rotate_left
    ·rw [if_neg c34] at H
     exact absurd H (by simp)
    rw [if_pos c34] at H
    have c34b0 : decide ((rd t946 (ji30)) < (t940.length : Int)) = true := decide_eq_true c34
    clear c34
    by_cases c35 : 0 ≤ ((rd_T33 t940 (rd t946 (ji30))).f1)
    rotate_left
    ·rw [if_neg c35] at H
     exact absurd H (by simp)
    rw [if_pos c35] at H
    have c35b0 : decide (0 ≤ ((rd_T33 t940 (rd t946 (ji30))).f1)) = true := decide_eq_true c35
    clear c35
    by_cases c36 : ((rd_T33 t940 (rd t946 (ji30))).f1) < (t955.length : Int)
    rotate_left
    ·rw [if_neg c36] at H
     exact absurd H (by simp)
    rw [if_pos c36] at H
    have c36b0 : decide (((rd_T33 t940 (rd t946 (ji30))).f1) < (t955.length : Int)) = true := decide_eq_true c36
    clear c36
    obtain rfl := Option.some.inj H
    try go_wp2
    replace HO_4 := Aside0.mk (Kd.R_drew HO_4.out)
    replace HO_5 := Aside0.mk (Kd.R_drew HO_5.out)
    replace HO_950001 := Aside0.mk (Kd.R_drew HO_950001.out)
    replace BK949 := Aside0.mk (blk_drew BK949.out)
    replace HB := Aside0.mk (below_drew1 HB.out)
    have p953 : 0 ≤ (0 : Int) := (by omega)
    have q953 : 0 < (t946.length : Int) := of_decide_eq_true nx_
    obtain ⟨ad953, e953, hx953_0⟩ := Kd.at_int (rR10 HO_5.out).2.2 0 p953 q953
    cases e953
    have qi953 : (0 < t946.length) = True := eq_true (by omega)
    (try rw [show ((0 : Int)).toNat = 0 from rfl] at hx953_0)
    (try rw [Addr.add_zero'] at hx953_0)
    replace p953 := eq_true p953
    replace q953 := eq_true q953
    have p954 : 0 ≤ ((rd t946 0) : Int) := of_decide_eq_true nx_
    have q954 : (rd t946 0) < (t940.length : Int) := of_decide_eq_true nx_
    obtain ⟨ad954, e954, hx954_0, hx954_1, hx954_2, hx954_3, hx954_4⟩ := at_T33 (rR10 HO_950001.out).2.2 (rd t946 0) p954 q954
    cases e954
    replace p954 := eq_true p954
    replace q954 := eq_true q954
    refine start_ (n := 9) (S := fun w' => w'.cell? ⟨gb949, 0, none⟩ = some (.int .i64 t939) ∧ w'.cell? ⟨gb949, 1, none⟩ = some (.slice (some ad954) t940.length co9) ∧ w'.cell? ad953 = some (.int .i64 (rd t946 0)) ∧ w'.cell? (ad954.add (((rd t946 0)).toNat * 5)) = some (.int .i64 ((rd_T33 t940 (rd t946 0)).f0)) ∧ w'.cell? ⟨(ad954.add (((rd t946 0)).toNat * 5)).block, (ad954.add (((rd t946 0)).toNat * 5)).off + 1, none⟩ = some (.int .i64 ((rd_T33 t940 (rd t946 0)).f1)) ∧ w'.cell? ⟨(ad954.add (((rd t946 0)).toNat * 5)).block, (ad954.add (((rd t946 0)).toNat * 5)).off + 2, none⟩ = some (.int .i64 ((rd_T33 t940 (rd t946 0)).f2)) ∧ w'.cell? ⟨(ad954.add (((rd t946 0)).toNat * 5)).block, (ad954.add (((rd t946 0)).toNat * 5)).off + 3, none⟩ = some (.int .i64 ((rd_T33 t940 (rd t946 0)).f3)) ∧ w'.cell? ⟨(ad954.add (((rd t946 0)).toNat * 5)).block, (ad954.add (((rd t946 0)).toNat * 5)).off + 4, none⟩ = some (.int .i64 ((rd_T33 t940 (rd t946 0)).f4))) (ds := []) (bm_ 9 0) (by kernel_rfl) rfl rfl ⟨ct_ BK949.out 0, ct_ BK949.out 1, hx953_0, hx954_0, hx954_1, hx954_2, hx954_3, hx954_4⟩ (fun hHeld => ?_); refine with_tabW laws_FnTurnBest.tab7 laws_FnTurnBest.bits7 (fun HT_ HW_ => ?_)
    generalize wc.drew = w37 at HO_4 HO_5 HO_950001 BK949 HB hx953_0 hx954_0 hx954_1 hx954_2 hx954_3 hx954_4 hHeld ⊢
    refine pu_ 0 42 (bm_ 9 1) HT_.out ?_
    refine pu_ 2 44 (bm_ 9 5) HT_.out ?_
    refine pu_ 3 45 (bm_ 9 13) HT_.out ?_
    refine tk_ 1 43 (bm_ 9 15) HT_.out HW_.out hHeld ?_
    refine tk_ 4 46 (bm_ 9 31) HT_.out HW_.out hHeld ?_
    refine pu_ 5 47 (bm_ 9 63) HT_.out ?_
    refine pu_ 6 48 (bm_ 9 127) HT_.out ?_
    refine tk_ 7 49 (bm_ 9 255) HT_.out HW_.out hHeld ?_
    refine pu_ 8 7 (bm_ 9 511) HT_.out ?_
    refine done_ (done_of HT_.out (by kernel_rfl)) ?_
    try go_wp2
    replace HO_4 := Aside0.mk (Kd.R_drew HO_4.out)
    replace HO_5 := Aside0.mk (Kd.R_drew HO_5.out)
    replace HO_950001 := Aside0.mk (Kd.R_drew HO_950001.out)
    replace BK949 := Aside0.mk (blk_drew BK949.out)
    replace HB := Aside0.mk (below_drew1 HB.out)
    have p958 : 0 ≤ ((ji30) : Int) := of_decide_eq_true nx_
    have q958 : (ji30) < (t946.length : Int) := of_decide_eq_true nx_
    obtain ⟨ad958, e958, hx958_0⟩ := Kd.at_int (rR10 HO_5.out).2.2 (ji30) p958 q958
    obtain rfl : ad953 = ad958 := (by injection e958)
    replace p958 := eq_true p958
    replace q958 := eq_true q958
    have p959 : 0 ≤ ((rd t946 (ji30)) : Int) := of_decide_eq_true nx_
    have q959 : (rd t946 (ji30)) < (t940.length : Int) := of_decide_eq_true nx_
    obtain ⟨ad959, e959, hx959_0, hx959_1, hx959_2, hx959_3, hx959_4⟩ := at_T33 (rR10 HO_950001.out).2.2 (rd t946 (ji30)) p959 q959
    obtain rfl : ad954 = ad959 := (by injection e959)
    replace p959 := eq_true p959
    replace q959 := eq_true q959
    refine start_ (n := 20) (S := fun w' => w'.cell? ⟨gb949, 0, none⟩ = some (.int .i64 t939) ∧ w'.cell? ⟨gb949, 1, none⟩ = some (.slice (some ad954) t940.length co9) ∧ w'.cell? (ad953.add ((ji30)).toNat) = some (.int .i64 (rd t946 (ji30))) ∧ w'.cell? (ad954.add (((rd t946 (ji30))).toNat * 5)) = some (.int .i64 ((rd_T33 t940 (rd t946 (ji30))).f0)) ∧ w'.cell? ⟨(ad954.add (((rd t946 (ji30))).toNat * 5)).block, (ad954.add (((rd t946 (ji30))).toNat * 5)).off + 1, none⟩ = some (.int .i64 ((rd_T33 t940 (rd t946 (ji30))).f1)) ∧ w'.cell? ⟨(ad954.add (((rd t946 (ji30))).toNat * 5)).block, (ad954.add (((rd t946 (ji30))).toNat * 5)).off + 2, none⟩ = some (.int .i64 ((rd_T33 t940 (rd t946 (ji30))).f2)) ∧ w'.cell? ⟨(ad954.add (((rd t946 (ji30))).toNat * 5)).block, (ad954.add (((rd t946 (ji30))).toNat * 5)).off + 3, none⟩ = some (.int .i64 ((rd_T33 t940 (rd t946 (ji30))).f3)) ∧ w'.cell? ⟨(ad954.add (((rd t946 (ji30))).toNat * 5)).block, (ad954.add (((rd t946 (ji30))).toNat * 5)).off + 4, none⟩ = some (.int .i64 ((rd_T33 t940 (rd t946 (ji30))).f4))) (ds := []) (bm_ 20 0) (by kernel_rfl) rfl rfl ⟨ct_ BK949.out 0, ct_ BK949.out 1, hx958_0, hx959_0, hx959_1, hx959_2, hx959_3, hx959_4⟩ (fun hHeld => ?_); refine with_tabW laws_FnTurnBest.tab8 laws_FnTurnBest.bits8 (fun HT_ HW_ => ?_)
    generalize w37.drew = w38 at HO_4 HO_5 HO_950001 BK949 HB hx958_0 hx959_0 hx959_1 hx959_2 hx959_3 hx959_4 hHeld ⊢
    refine pu_ 1 51 (bm_ 20 2) HT_.out ?_
    refine pu_ 2 52 (bm_ 20 6) HT_.out ?_
    refine pu_ 4 54 (bm_ 20 22) HT_.out ?_
    refine pu_ 6 56 (bm_ 20 86) HT_.out ?_
    refine pu_ 7 57 (bm_ 20 214) HT_.out ?_
    refine pu_ 8 58 (bm_ 20 470) HT_.out ?_
    refine pu_ 9 59 (bm_ 20 982) HT_.out ?_
    refine pu_ 10 60 (bm_ 20 2006) HT_.out ?_
    refine pu_ 17 67 (bm_ 20 133078) HT_.out ?_
    refine tk_ 0 50 (bm_ 20 133079) HT_.out HW_.out hHeld ?_
    refine tk_ 5 55 (bm_ 20 133111) HT_.out HW_.out hHeld ?_
    refine tk_ 11 61 (bm_ 20 135159) HT_.out HW_.out hHeld ?_
    refine pu_ 12 62 (bm_ 20 139255) HT_.out ?_
    refine pu_ 13 63 (bm_ 20 147447) HT_.out ?_
    refine tk_ 14 64 (bm_ 20 163831) HT_.out HW_.out hHeld ?_
    refine one_ (i := 3) (N := some 53) (bm_ 20 163839) rfl rfl (one_of HT_.out (by kernel_rfl)) (by decide) (fun K hK => ?_)
    refine go_ Try.func30 #[.agg #[.int .i64 t939, .slice (some ad954) t940.length co9], .slice Ao10 t943.length co10, .int .i64 ((rd_T33 t940 (rd t946 0)).f0)] ?_
    with_reducible refine (impl_TurnAll.calls kj4 t939 _ _ t940 _ _ t943 ((rd_T33 t940 (rd t946 0)).f0) t955 _ ?side1 ?side2 ?side3 ?side4 A29.out).mono ?_
    (case side1 => exact nc_ (rR10 HO_950001.out).2.2)
    (case side2 => exact (rR10 HO_950001.out).2.1)
    (case side3 => exact nc_ (rR10 HO_4.out).2.2)
    (case side4 => exact (rR10 HO_4.out).2.1)
    rintro e w39 ⟨v956, rfl, ho0, hb⟩
    have HS2_ := (hb.cell (World.block_lt_of_cell? _ _ (hHeld.2.2.1))).trans (hHeld.2.2.1)
    have HS3_ := (hb.cell (World.block_lt_of_cell? _ _ (hHeld.2.2.2.1))).trans (hHeld.2.2.2.1)
    have HS4_ := (hb.cell (World.block_lt_of_cell? _ _ (hHeld.2.2.2.2.1))).trans (hHeld.2.2.2.2.1)
    have HS5_ := (hb.cell (World.block_lt_of_cell? _ _ (hHeld.2.2.2.2.2.1))).trans (hHeld.2.2.2.2.2.1)
    have HS6_ := (hb.cell (World.block_lt_of_cell? _ _ (hHeld.2.2.2.2.2.2.1))).trans (hHeld.2.2.2.2.2.2.1)
    have HS7_ := (hb.cell (World.block_lt_of_cell? _ _ (hHeld.2.2.2.2.2.2.2))).trans (hHeld.2.2.2.2.2.2.2)
    refine ⟨_, rfl, ?_⟩
    replace HO_4 := kR_ HO_4 hb
    replace HO_950001 := kR_ HO_950001 hb
    have HO957 := Aside0.mk (Kd.R_lower (Kd.R_new' ho0 (Kd.R_lt (nr_ HO_5.out))) (below_size (ne_ HB.out)))
    replace HO_5 := Aside0.mk (Kd.R_elder' (nr_ HO_5.out) (Kd.R_base ho0) hb)
    replace BK949 := kb_ BK949 hb
    replace HB := kB_ HB hb
    (try clear hb)
    (try clear hb2)
    (try clear hk)
    (try clear hi)
    (try clear ho0)
    obtain ⟨Ao40, co40, eo40⟩ := Kd.R_slice HO957.out
    (first | subst eo40 | (injection eo40 with f1_ f2_ f3_; have f4_ := f1_.symm; have f5_ := f3_.symm; clear f1_ f2_ f3_; subst f4_; subst f5_))
    have p960 : 0 ≤ (((rd_T33 t940 (rd t946 (ji30))).f1) : Int) := of_decide_eq_true nx_
    have q960 : ((rd_T33 t940 (rd t946 (ji30))).f1) < (t955.length : Int) := of_decide_eq_true nx_
    obtain ⟨ad960, e960, hx960_0⟩ := Kd.at_int (rR10 HO957.out).2.2 ((rd_T33 t940 (rd t946 (ji30))).f1) p960 q960
    cases e960
    replace p960 := eq_true p960
    replace q960 := eq_true q960
    refine hK.out _ _ ⟨ct_ BK949.out 0, ct_ BK949.out 1, HS2_, HS3_, HS4_, HS5_, HS6_, HS7_⟩ (fun hHeld => ?_)
    clear hK K
    refine nm1_ (some 53) ?_
    refine pu_ 15 65 (bm_ 20 196607) HT_.out ?_
    refine one_ (i := 16) (N := some 66) (bm_ 20 262143) rfl rfl (one_of HT_.out (by kernel_rfl)) (by decide) (fun K hK => ?_)
    refine value_ (w1 := ?_) (v := ?_) (by rfl) rfl ?_ ?_
    rotate_left 2
    ·go_simp
     constructor
     ·rfl
     ·rfl
    refine hK.out _ _ hHeld (fun hHeld => ?_)
    clear hK K
    refine nm1_ (some 66) ?_
    refine pu_ 18 68 (bm_ 20 524287) HT_.out ?_
    refine pu_ 19 2 (bm_ 20 1048575) HT_.out ?_
    refine done_ (done_of HT_.out (by kernel_rfl)) ?_
    try go_wp2
    go_ret
    exact ⟨by first | rfl | (simp [errW_none, errW_some] <;> rfl) | (simp only [← hji30]; first | rfl | (simp [errW_none, errW_some] <;> rfl)) | (simp [*, errW_none, errW_some] <;> rfl), ne_ HB.out⟩
/-- THE ONE PURE STATEMENT of laws_FnTurnBest: yours. -/
def laws_FnTurnBest.Pure : Prop := ∀ (l0 : List Int), l0.length ≤ maxLen → l0.length * 1 ≤ 140737488351232 → (∀ x ∈ l0, (Lit.int .u8 x).wf = true) → ∃ k, laws_FnTurnBest.f k l0 = some true
theorem laws_FnTurnBest.walk (P : laws_FnTurnBest.Pure) (a0 : Option Addr) (len0 cap0 : Nat) (z0 : List Int) (w : World) (w0 : (a0 = none ∧ len0 = 0 ∧ cap0 = 0 ∧ z0 = []) ∨ ∃ x, a0 = some x ∧ len0 ≤ cap0 ∧ cap0 ≤ maxLen ∧ z0.length = cap0 ∧ (∀ i, i < z0.length → w.cell? (x.add i) = some (.int .u8 (z0.getD i 0))) ∧ ∀ n ∈ z0, (Lit.int .u8 n).wf = true) (y0 : len0 * 1 ≤ 140737488351232) :
    Calls Try.prog 10 #[.slice a0 len0 cap0] w fun e w' => e = .returned (.bool true) ∧ Below w.heap.size w w' := by
  obtain ⟨l0, rfl, hr0, hm0, hw0, hc0⟩ := ReadsInt.ofRowC w0
  obtain ⟨k, h⟩ := P l0 hm0 y0 hw0
  refine (laws_FnTurnBest.calls k _ _ l0 true w (Kd.C_of_reads (d := (0 : Int)) (h1 := fun _ => rfl) hr0) hc0 h).mono ?_
  rintro e w' ⟨rfl, hd⟩
  exact ⟨rfl, hd⟩

end Go.Proofs.Ytcfmejfmjjgoaaa.Print
