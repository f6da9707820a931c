-- Made by this session's own program (wip/patch_print.py, over the kit's print). Lean checks it.
import Derived.Test.YtcfmejfmjjgoaaaPrint0
import Derived.Test.YtcfmejfmjjgoaaaPrintF29
import Derived.Test.YtcfmejfmjjgoaaaPrintF30
import Derived.Test.YtcfmejfmjjgoaaaPrintF31
import Derived.Test.YtcfmejfmjjgoaaaPrintF32
import Derived.Test.YtcfmejfmjjgoaaaPrintF40
namespace Go.Proofs.Ytcfmejfmjjgoaaa.Print
open Go.RowKit Go.Proofs.YtcfmejfmjjgoaaaW.PrintWords Go.Proofs.YtcfmejfmjjgoaaaW.PrintLast Go.Proofs.YtcfmejfmjjgoaaaW.PrintMore Go.Proofs.YtcfmejfmjjgoaaaX
attribute [local go_sem] max2_int min2_int max_two min_two max_three min_three max_four min_four   -- for this text's walks alone
set_option linter.unusedVariables false
set_option linter.unusedSimpArgs false

abbrev rR11 := @Kd.R_reads'
/-! ### laws_FnTurnAll: function 11 -/
mutual
def laws_FnTurnAll.j0 : Nat → List (S31) → Int → List Int → Bool → Int → List (S33) → Option (Bool)
  | 0, _, _, _, _, _, _ => none
  | k + 1, x4, x5, x6, x33, x970000, x970001 => if x33 = true then ((spec_TurnAll.f k x970000 x970001 x4 x5).bind fun t977 => ((laws_wkInts.f k x6 t977).bind fun t980 => (some t980))) else ((impl_NearAll.f k x970000 x970001 x5).bind fun t981 => (laws_FnTurnAll.l0 k x5 x6 t981 0 x970000 x970001))
def laws_FnTurnAll.l0 : Nat → Int → List Int → List Int → Int → Int → List (S33) → Option (Bool)
  | 0, _, _, _, _, _, _ => none
  | k + 1, x5, x6, x7, x8, x970000, x970001 => if x8 < x970000 then (if 0 ≤ x8 then (if x8 < (x6.length : Int) then (if x8 < (x7.length : Int) then (if (rd x6 x8) < (rd x7 x8) then (some false) else (laws_FnTurnAll.l0 k x5 x6 x7 (wrap64 (x8 + 1)) x970000 x970001)) else (none)) else (none)) else (none)) else (if 0 ≤ x5 then (if x5 < (x6.length : Int) then (if (rd x6 x5) = 0 then ((impl_TurnAll.f k x970000 x970001 ([] : List (S31)) x5).bind fun t987 => ((laws_wkInts.f k t987 x7).bind fun t990 => (some t990))) else (some false)) else (none)) else (none))
end
def laws_FnTurnAll.f (k : Nat) (l0 : List Int) : Option (Bool) := if (l0.length : Int) > 1048576 then (some true) else ((spec_DrawTurnAll.f k l0).bind fun bt961 => ((impl_TurnAll.f k bt961.1 bt961.2.1 bt961.2.2.1 bt961.2.2.2).bind fun t970 => ((spec_TurnAll.f k bt961.1 bt961.2.1 bt961.2.2.1 bt961.2.2.2).bind fun t973 => ((laws_wkInts.f k t970 t973).bind fun t976 => (if t976 = true then (laws_FnTurnAll.j0 k bt961.2.2.1 bt961.2.2.2 t970 ((t970.length : Int) == 0) bt961.1 bt961.2.1) else (laws_FnTurnAll.j0 k bt961.2.2.1 bt961.2.2.2 t970 true bt961.1 bt961.2.1))))))
set_option maxHeartbeats 200000000 in
set_option maxRecDepth 100000 in
theorem laws_FnTurnAll.calls (k : Nat) (A0 : Option Addr) (c0 : Nat) (l0 : List Int) (r : Bool) (w : World) (hr0 : Kd.C (Kd.int .u8) w A0 l0.length l0) (hc0 : l0.length ≤ c0) (h : laws_FnTurnAll.f k l0 = some r) :
    Calls Try.prog 11 #[.slice A0 l0.length c0] w fun e w' => e = .returned (.bool r) ∧ Below w.heap.size w w' := by
  have hu25 := Try.underlying25
  have HR0 := Aside0.mk hr0
  have HC0 := Aside0.mk hc0
  clear hr0 hc0
  have HB := Aside0.mk (Below.refl w.heap.size w)
  have H : (if (l0.length : Int) > 1048576 then (some true) else ((spec_DrawTurnAll.f k l0).bind fun bt961 => ((impl_TurnAll.f k bt961.1 bt961.2.1 bt961.2.2.1 bt961.2.2.2).bind fun t970 => ((spec_TurnAll.f k bt961.1 bt961.2.1 bt961.2.2.1 bt961.2.2.2).bind fun t973 => ((laws_wkInts.f k t970 t973).bind fun t976 => (if t976 = true then (laws_FnTurnAll.j0 k bt961.2.2.1 bt961.2.2.2 t970 ((t970.length : Int) == 0) bt961.1 bt961.2.1) else (laws_FnTurnAll.j0 k bt961.2.2.1 bt961.2.2.2 t970 true bt961.1 bt961.2.1))))))) = some r := h
  clear h
  by_cases c2 : (l0.length : Int) > 1048576
  ·rw [if_pos c2] at H
   have c2b0 : decide (1048576 < (l0.length : Int)) = true := decide_eq_true c2
   have c2b1 : decide (1048576 < l0.length) = true := decide_eq_true (by omega)
   clear c2
   obtain rfl := Option.some.inj H
   go_enter Try.func11, Try.ntmps11
   go_wp2
   repeat (go_quiet (fail); try go_wp2)
   go_ret
   exact ⟨nw_, ne_ HB.out⟩
  rw [if_neg c2] at H
  have c2b0 : decide (1048576 < (l0.length : Int)) = false := decide_eq_false c2
  have c2b1 : decide (1048576 < l0.length) = false := decide_eq_false (by omega)
  clear c2
  replace H := Option.bind_eq_some_iff.mp H
  obtain ⟨⟨t961, t962, t965, t968⟩, A30, H⟩ := H
  try dsimp only at H
  have A3 := Aside0.mk A30
  clear A30
  replace H := Option.bind_eq_some_iff.mp H
  obtain ⟨t970, A40, H⟩ := H
  try dsimp only at H
  have A4 := Aside0.mk A40
  clear A40
  have HC5 := Aside0.mk H
  clear H
  go_enter Try.func11, Try.ntmps11
  go_upto_region 5 with (first | (go_at_call 29; (with_reducible refine (spec_DrawTurnAll.calls k _ _ l0 t961 t962 t965 t968 _ ?side1 ?side2 A3.out).mono ?_); (case side1 => repeat (first | exact HR0.out | (with_reducible refine Kd.C_alloc ?_ _) | (with_reducible refine Kd.C_drewN ?_ _) | (with_reducible refine Kd.C_drew ?_))); (case side2 => exact HC0.out); rintro e w6 ⟨v963, v966, rfl, ho0, ho1, hb⟩; have HO964 := Aside0.mk (Kd.R_lower ho0 (below_size (ne_ HB.out))); have HO967 := Aside0.mk (Kd.R_lower ho1 (below_size (ne_ HB.out))); replace HB := kB_ HB hb; (try clear hb); (try clear hb2); (try clear hk); (try clear hi); (try clear ho0); (try clear ho1)) | ((with_reducible refine gate_dst (N := 3) rfl ?_); (try (refine gate_guard (by rfl) ?_; dsimp only)); refine bx_ 3 #[.int .i64 0, .slice none 0 0] 25 ?_; intro gb969 hg w7 hbox hb; have BK969 := Aside0.mk (hbox); have GW969 := Aside0.mk (zs_ hg (ne_ HB.out)); have GE969 := Aside0.mk (zs_ hg (ne_ HB.out)); replace HO964 := kR_ HO964 hb; replace HO967 := kR_ HO967 hb; replace HB := kB_ HB hb; clear hb hbox hg; obtain ⟨hcz8_0, hcz8_1, hfz8_0, hfz8_1⟩ := cz2_ BK969.out; obtain ⟨Ao9, co9, eo9⟩ := Kd.R_slice HO964.out; subst eo9; obtain ⟨Ao10, co10, eo10⟩ := Kd.R_slice HO967.out; subst eo10) | (go_at_call 30; (with_reducible refine (impl_TurnAll.calls k t961 _ _ t962 _ _ t965 t968 t970 _ ?side1 ?side2 ?side3 ?side4 A4.out).mono ?_); (case side1 => refine (rR11 (e := 33) (base := w.heap.size) (ok := fun k_ => True) (n := t962.length) (c := co9) ?_).2.2; exact (by (with_reducible repeat (first | apply Kd.R_alloc | apply Kd.R_drewN | apply Kd.R_drew)); exact (Kd.R_mono (rf2_ (Kd.R_types HO964.out BK969.out (by decide))) (fun _ h_ => h_.1)))); (case side2 => exact (rR11 HO964.out).2.1); (case side3 => refine (rR11 (e := 31) (base := w.heap.size) (ok := fun k_ => True) (n := t965.length) (c := co10) ?_).2.2; exact (by (with_reducible repeat (first | apply Kd.R_alloc | apply Kd.R_drewN | apply Kd.R_drew)); exact (Kd.R_mono (rf2_ (Kd.R_types HO967.out BK969.out (by decide))) (fun _ h_ => h_.1)))); (case side4 => exact (rR11 HO967.out).2.1); rintro e w11 ⟨v971, rfl, ho0, hb⟩; have HO972 := Aside0.mk (Kd.R_lower ho0 (below_size (ne_ HB.out))); replace HO964 := Aside0.mk (Kd.R_below (by (with_reducible repeat (first | apply Kd.R_alloc | apply Kd.R_drewN | apply Kd.R_drew)); exact (Kd.R_mono (rf2_ (Kd.R_types HO964.out BK969.out (by decide))) (fun _ h_ => h_.1))) hb); replace HO967 := Aside0.mk (Kd.R_below (by (with_reducible repeat (first | apply Kd.R_alloc | apply Kd.R_drewN | apply Kd.R_drew)); exact (Kd.R_mono (rf2_ (Kd.R_types HO967.out BK969.out (by decide))) (fun _ h_ => h_.1))) hb); replace BK969 := Aside0.mk (blk_below (g := gb969) (o := .cells #[.int .i64 t961, .slice Ao9 t962.length co9] 25 (0, 0)) (np_ BK969.out) hb); replace HB := kB_ HB hb; (try clear hb); (try clear hb2); (try clear hk); (try clear hi); (try clear ho0)))
  repeat (go_quiet (first | (go_at_call 29; (with_reducible refine (spec_DrawTurnAll.calls k _ _ l0 t961 t962 t965 t968 _ ?side1 ?side2 A3.out).mono ?_); (case side1 => repeat (first | exact HR0.out | (with_reducible refine Kd.C_alloc ?_ _) | (with_reducible refine Kd.C_drewN ?_ _) | (with_reducible refine Kd.C_drew ?_))); (case side2 => exact HC0.out); rintro e w6 ⟨v963, v966, rfl, ho0, ho1, hb⟩; have HO964 := Aside0.mk (Kd.R_lower ho0 (below_size (ne_ HB.out))); have HO967 := Aside0.mk (Kd.R_lower ho1 (below_size (ne_ HB.out))); replace HB := kB_ HB hb; (try clear hb); (try clear hb2); (try clear hk); (try clear hi); (try clear ho0); (try clear ho1)) | ((with_reducible refine gate_dst (N := 3) rfl ?_); (try (refine gate_guard (by rfl) ?_; dsimp only)); refine bx_ 3 #[.int .i64 0, .slice none 0 0] 25 ?_; intro gb969 hg w7 hbox hb; have BK969 := Aside0.mk (hbox); have GW969 := Aside0.mk (zs_ hg (ne_ HB.out)); have GE969 := Aside0.mk (zs_ hg (ne_ HB.out)); replace HO964 := kR_ HO964 hb; replace HO967 := kR_ HO967 hb; replace HB := kB_ HB hb; clear hb hbox hg; obtain ⟨hcz8_0, hcz8_1, hfz8_0, hfz8_1⟩ := cz2_ BK969.out; obtain ⟨Ao9, co9, eo9⟩ := Kd.R_slice HO964.out; subst eo9; obtain ⟨Ao10, co10, eo10⟩ := Kd.R_slice HO967.out; subst eo10) | (go_at_call 30; (with_reducible refine (impl_TurnAll.calls k t961 _ _ t962 _ _ t965 t968 t970 _ ?side1 ?side2 ?side3 ?side4 A4.out).mono ?_); (case side1 => refine (rR11 (e := 33) (base := w.heap.size) (ok := fun k_ => True) (n := t962.length) (c := co9) ?_).2.2; exact (by (with_reducible repeat (first | apply Kd.R_alloc | apply Kd.R_drewN | apply Kd.R_drew)); exact (Kd.R_mono (rf2_ (Kd.R_types HO964.out BK969.out (by decide))) (fun _ h_ => h_.1)))); (case side2 => exact (rR11 HO964.out).2.1); (case side3 => refine (rR11 (e := 31) (base := w.heap.size) (ok := fun k_ => True) (n := t965.length) (c := co10) ?_).2.2; exact (by (with_reducible repeat (first | apply Kd.R_alloc | apply Kd.R_drewN | apply Kd.R_drew)); exact (Kd.R_mono (rf2_ (Kd.R_types HO967.out BK969.out (by decide))) (fun _ h_ => h_.1)))); (case side4 => exact (rR11 HO967.out).2.1); rintro e w11 ⟨v971, rfl, ho0, hb⟩; have HO972 := Aside0.mk (Kd.R_lower ho0 (below_size (ne_ HB.out))); replace HO964 := Aside0.mk (Kd.R_below (by (with_reducible repeat (first | apply Kd.R_alloc | apply Kd.R_drewN | apply Kd.R_drew)); exact (Kd.R_mono (rf2_ (Kd.R_types HO964.out BK969.out (by decide))) (fun _ h_ => h_.1))) hb); replace HO967 := Aside0.mk (Kd.R_below (by (with_reducible repeat (first | apply Kd.R_alloc | apply Kd.R_drewN | apply Kd.R_drew)); exact (Kd.R_mono (rf2_ (Kd.R_types HO967.out BK969.out (by decide))) (fun _ h_ => h_.1))) hb); replace BK969 := Aside0.mk (blk_below (g := gb969) (o := .cells #[.int .i64 t961, .slice Ao9 t962.length co9] 25 (0, 0)) (np_ BK969.out) hb); replace HB := kB_ HB hb; (try clear hb); (try clear hb2); (try clear hk); (try clear hi); (try clear ho0))); go_upto_region 5 with (first | (go_at_call 29; (with_reducible refine (spec_DrawTurnAll.calls k _ _ l0 t961 t962 t965 t968 _ ?side1 ?side2 A3.out).mono ?_); (case side1 => repeat (first | exact HR0.out | (with_reducible refine Kd.C_alloc ?_ _) | (with_reducible refine Kd.C_drewN ?_ _) | (with_reducible refine Kd.C_drew ?_))); (case side2 => exact HC0.out); rintro e w6 ⟨v963, v966, rfl, ho0, ho1, hb⟩; have HO964 := Aside0.mk (Kd.R_lower ho0 (below_size (ne_ HB.out))); have HO967 := Aside0.mk (Kd.R_lower ho1 (below_size (ne_ HB.out))); replace HB := kB_ HB hb; (try clear hb); (try clear hb2); (try clear hk); (try clear hi); (try clear ho0); (try clear ho1)) | ((with_reducible refine gate_dst (N := 3) rfl ?_); (try (refine gate_guard (by rfl) ?_; dsimp only)); refine bx_ 3 #[.int .i64 0, .slice none 0 0] 25 ?_; intro gb969 hg w7 hbox hb; have BK969 := Aside0.mk (hbox); have GW969 := Aside0.mk (zs_ hg (ne_ HB.out)); have GE969 := Aside0.mk (zs_ hg (ne_ HB.out)); replace HO964 := kR_ HO964 hb; replace HO967 := kR_ HO967 hb; replace HB := kB_ HB hb; clear hb hbox hg; obtain ⟨hcz8_0, hcz8_1, hfz8_0, hfz8_1⟩ := cz2_ BK969.out; obtain ⟨Ao9, co9, eo9⟩ := Kd.R_slice HO964.out; subst eo9; obtain ⟨Ao10, co10, eo10⟩ := Kd.R_slice HO967.out; subst eo10) | (go_at_call 30; (with_reducible refine (impl_TurnAll.calls k t961 _ _ t962 _ _ t965 t968 t970 _ ?side1 ?side2 ?side3 ?side4 A4.out).mono ?_); (case side1 => refine (rR11 (e := 33) (base := w.heap.size) (ok := fun k_ => True) (n := t962.length) (c := co9) ?_).2.2; exact (by (with_reducible repeat (first | apply Kd.R_alloc | apply Kd.R_drewN | apply Kd.R_drew)); exact (Kd.R_mono (rf2_ (Kd.R_types HO964.out BK969.out (by decide))) (fun _ h_ => h_.1)))); (case side2 => exact (rR11 HO964.out).2.1); (case side3 => refine (rR11 (e := 31) (base := w.heap.size) (ok := fun k_ => True) (n := t965.length) (c := co10) ?_).2.2; exact (by (with_reducible repeat (first | apply Kd.R_alloc | apply Kd.R_drewN | apply Kd.R_drew)); exact (Kd.R_mono (rf2_ (Kd.R_types HO967.out BK969.out (by decide))) (fun _ h_ => h_.1)))); (case side4 => exact (rR11 HO967.out).2.1); rintro e w11 ⟨v971, rfl, ho0, hb⟩; have HO972 := Aside0.mk (Kd.R_lower ho0 (below_size (ne_ HB.out))); replace HO964 := Aside0.mk (Kd.R_below (by (with_reducible repeat (first | apply Kd.R_alloc | apply Kd.R_drewN | apply Kd.R_drew)); exact (Kd.R_mono (rf2_ (Kd.R_types HO964.out BK969.out (by decide))) (fun _ h_ => h_.1))) hb); replace HO967 := Aside0.mk (Kd.R_below (by (with_reducible repeat (first | apply Kd.R_alloc | apply Kd.R_drewN | apply Kd.R_drew)); exact (Kd.R_mono (rf2_ (Kd.R_types HO967.out BK969.out (by decide))) (fun _ h_ => h_.1))) hb); replace BK969 := Aside0.mk (blk_below (g := gb969) (o := .cells #[.int .i64 t961, .slice Ao9 t962.length co9] 25 (0, 0)) (np_ BK969.out) hb); replace HB := kB_ HB hb; (try clear hb); (try clear hb2); (try clear hk); (try clear hi); (try clear ho0))))
  (try simp only [Act.put, List.setIfInBounds_toArray, List.set_cons_zero, List.set_cons_succ])
  go_cut [33] (fun v33 wc => ∃ (kq : Nat) (x33_4 : Bool), v33 = .bool x33_4 ∧ Aside0 (laws_FnTurnAll.j0 kq t965 t968 t970 x33_4 t961 t962 = some r) ∧ Aside0 (kq ≤ k) ∧ Aside0 (Kd.R k31 31 wc w.heap.size (fun _ => True) (.slice Ao10 t965.length co10) t965) ∧ Aside0 (Kd.R (Kd.int .i64) 3 wc w.heap.size (fun _ => True) v971 t970) ∧ Aside0 (Kd.R k33 33 wc w.heap.size (fun _ => True) (.slice Ao9 t962.length co9) t962) ∧ Aside0 (wc.heap[gb969]? = some (.cells #[.int .i64 t961, (.slice Ao9 t962.length co9)] 25 (0, 0))) ∧ Aside0 (Below w.heap.size w wc))
  case first =>
   have H := HC5.out
   clear HC5
   replace H := Option.bind_eq_some_iff.mp H
   obtain ⟨t973, A120, H⟩ := H
   try dsimp only at H
   have A12 := Aside0.mk A120
   clear A120
   replace H := Option.bind_eq_some_iff.mp H
   obtain ⟨t976, A130, H⟩ := H
   try dsimp only at H
   have A13 := Aside0.mk A130
   clear A130
   by_cases c14 : t976 = true
   ·subst c14
    rw [if_pos rfl] at H
    have H' := Aside0.mk H
    clear H
    obtain ⟨hcz15_0, hcz15_1, hfz15_0, hfz15_1⟩ := cz2_ BK969.out
    go_wp2_with (first | (go_at_call 32; (with_reducible refine (spec_TurnAll.calls k t961 _ _ t962 _ _ t965 t968 t973 _ ?side1 ?side2 ?side3 ?side4 A12.out).mono ?_); (case side1 => exact nc_ (rR11 HO964.out).2.2); (case side2 => exact (rR11 HO964.out).2.1); (case side3 => exact nc_ (rR11 HO967.out).2.2); (case side4 => exact (rR11 HO967.out).2.1); rintro e w16 ⟨v974, rfl, ho0, hb⟩; have HO975 := Aside0.mk (Kd.R_lower (Kd.R_new' ho0 (Kd.R_lt (nr_ HO972.out))) (below_size (ne_ HB.out))); replace HO964 := kR_ HO964 hb; replace HO967 := kR_ HO967 hb; replace HO972 := Aside0.mk (Kd.R_elder' (nr_ HO972.out) (Kd.R_base ho0) hb); replace BK969 := kb_ BK969 hb; replace HB := kB_ HB hb; (try clear hb); (try clear hb2); (try clear hk); (try clear hi); (try clear ho0); obtain ⟨Ao17, co17, eo17⟩ := Kd.R_slice HO972.out; subst eo17; obtain ⟨Ao18, co18, eo18⟩ := Kd.R_slice HO975.out; subst eo18) | (go_at_call 31; (with_reducible refine (laws_wkInts.calls k _ _ t970 _ _ t973 true _ ?side1 ?side2 ?side3 ?side4 A13.out).mono ?_); (case side1 => exact nc_ (rR11 HO972.out).2.2); (case side2 => exact (rR11 HO972.out).2.1); (case side3 => exact nc_ (rR11 HO975.out).2.2); (case side4 => exact (rR11 HO975.out).2.1); rintro e w' ⟨rfl, ⟨nd, rfl⟩⟩; (try first | exact ⟨rfl, _, World.drewN_drewN _ _ _⟩ | exact ⟨rfl, _, Eq.trans (World.drewN_drewN _ _ _) (congrArg (World.drewN _) (Nat.add_assoc _ _ _))⟩)))
    repeat (go_quiet (first | (go_at_call 32; (with_reducible refine (spec_TurnAll.calls k t961 _ _ t962 _ _ t965 t968 t973 _ ?side1 ?side2 ?side3 ?side4 A12.out).mono ?_); (case side1 => exact nc_ (rR11 HO964.out).2.2); (case side2 => exact (rR11 HO964.out).2.1); (case side3 => exact nc_ (rR11 HO967.out).2.2); (case side4 => exact (rR11 HO967.out).2.1); rintro e w16 ⟨v974, rfl, ho0, hb⟩; have HO975 := Aside0.mk (Kd.R_lower (Kd.R_new' ho0 (Kd.R_lt (nr_ HO972.out))) (below_size (ne_ HB.out))); replace HO964 := kR_ HO964 hb; replace HO967 := kR_ HO967 hb; replace HO972 := Aside0.mk (Kd.R_elder' (nr_ HO972.out) (Kd.R_base ho0) hb); replace BK969 := kb_ BK969 hb; replace HB := kB_ HB hb; (try clear hb); (try clear hb2); (try clear hk); (try clear hi); (try clear ho0); obtain ⟨Ao17, co17, eo17⟩ := Kd.R_slice HO972.out; subst eo17; obtain ⟨Ao18, co18, eo18⟩ := Kd.R_slice HO975.out; subst eo18) | (go_at_call 31; (with_reducible refine (laws_wkInts.calls k _ _ t970 _ _ t973 true _ ?side1 ?side2 ?side3 ?side4 A13.out).mono ?_); (case side1 => exact nc_ (rR11 HO972.out).2.2); (case side2 => exact (rR11 HO972.out).2.1); (case side3 => exact nc_ (rR11 HO975.out).2.2); (case side4 => exact (rR11 HO975.out).2.1); rintro e w' ⟨rfl, ⟨nd, rfl⟩⟩; (try first | exact ⟨rfl, _, World.drewN_drewN _ _ _⟩ | exact ⟨rfl, _, Eq.trans (World.drewN_drewN _ _ _) (congrArg (World.drewN _) (Nat.add_assoc _ _ _))⟩))); try go_wp2_with (first | (go_at_call 32; (with_reducible refine (spec_TurnAll.calls k t961 _ _ t962 _ _ t965 t968 t973 _ ?side1 ?side2 ?side3 ?side4 A12.out).mono ?_); (case side1 => exact nc_ (rR11 HO964.out).2.2); (case side2 => exact (rR11 HO964.out).2.1); (case side3 => exact nc_ (rR11 HO967.out).2.2); (case side4 => exact (rR11 HO967.out).2.1); rintro e w16 ⟨v974, rfl, ho0, hb⟩; have HO975 := Aside0.mk (Kd.R_lower (Kd.R_new' ho0 (Kd.R_lt (nr_ HO972.out))) (below_size (ne_ HB.out))); replace HO964 := kR_ HO964 hb; replace HO967 := kR_ HO967 hb; replace HO972 := Aside0.mk (Kd.R_elder' (nr_ HO972.out) (Kd.R_base ho0) hb); replace BK969 := kb_ BK969 hb; replace HB := kB_ HB hb; (try clear hb); (try clear hb2); (try clear hk); (try clear hi); (try clear ho0); obtain ⟨Ao17, co17, eo17⟩ := Kd.R_slice HO972.out; subst eo17; obtain ⟨Ao18, co18, eo18⟩ := Kd.R_slice HO975.out; subst eo18) | (go_at_call 31; (with_reducible refine (laws_wkInts.calls k _ _ t970 _ _ t973 true _ ?side1 ?side2 ?side3 ?side4 A13.out).mono ?_); (case side1 => exact nc_ (rR11 HO972.out).2.2); (case side2 => exact (rR11 HO972.out).2.1); (case side3 => exact nc_ (rR11 HO975.out).2.2); (case side4 => exact (rR11 HO975.out).2.1); rintro e w' ⟨rfl, ⟨nd, rfl⟩⟩; (try first | exact ⟨rfl, _, World.drewN_drewN _ _ _⟩ | exact ⟨rfl, _, Eq.trans (World.drewN_drewN _ _ _) (congrArg (World.drewN _) (Nat.add_assoc _ _ _))⟩))))
    go_meet
    case rel => exact ⟨_, (((t970.length : Int) == 0)), ns_, H', ⟨by first | omega | exact Nat.le_refl _⟩, ⟨nr_ HO967.out⟩, ⟨by (with_reducible repeat (first | apply Kd.R_alloc | apply Kd.R_drewN | apply Kd.R_drew)); exact Kd.R_mono HO972.out (fun _ hk => trivial)⟩, ⟨nr_ HO964.out⟩, ⟨nb_ BK969.out⟩, ⟨ne_ HB.out⟩⟩
   replace c14 := Bool.eq_false_iff.mpr c14
   subst c14
   have H1 : (laws_FnTurnAll.j0 k t965 t968 t970 true t961 t962) = some r := by rw [if_neg (show ¬ (false = true) by decide)] at H; exact H
   clear H
   have H := H1
   clear H1
   have H' := Aside0.mk H
   clear H
   obtain ⟨hcz19_0, hcz19_1, hfz19_0, hfz19_1⟩ := cz2_ BK969.out
   go_wp2_with (first | (go_at_call 32; (with_reducible refine (spec_TurnAll.calls k t961 _ _ t962 _ _ t965 t968 t973 _ ?side1 ?side2 ?side3 ?side4 A12.out).mono ?_); (case side1 => exact nc_ (rR11 HO964.out).2.2); (case side2 => exact (rR11 HO964.out).2.1); (case side3 => exact nc_ (rR11 HO967.out).2.2); (case side4 => exact (rR11 HO967.out).2.1); rintro e w20 ⟨v974, rfl, ho0, hb⟩; have HO975 := Aside0.mk (Kd.R_lower (Kd.R_new' ho0 (Kd.R_lt (nr_ HO972.out))) (below_size (ne_ HB.out))); replace HO964 := kR_ HO964 hb; replace HO967 := kR_ HO967 hb; replace HO972 := Aside0.mk (Kd.R_elder' (nr_ HO972.out) (Kd.R_base ho0) hb); replace BK969 := kb_ BK969 hb; replace HB := kB_ HB hb; (try clear hb); (try clear hb2); (try clear hk); (try clear hi); (try clear ho0); obtain ⟨Ao21, co21, eo21⟩ := Kd.R_slice HO972.out; subst eo21; obtain ⟨Ao22, co22, eo22⟩ := Kd.R_slice HO975.out; subst eo22) | (go_at_call 31; (with_reducible refine (laws_wkInts.calls k _ _ t970 _ _ t973 false _ ?side1 ?side2 ?side3 ?side4 A13.out).mono ?_); (case side1 => exact nc_ (rR11 HO972.out).2.2); (case side2 => exact (rR11 HO972.out).2.1); (case side3 => exact nc_ (rR11 HO975.out).2.2); (case side4 => exact (rR11 HO975.out).2.1); rintro e w' ⟨rfl, ⟨nd, rfl⟩⟩; (try first | exact ⟨rfl, _, World.drewN_drewN _ _ _⟩ | exact ⟨rfl, _, Eq.trans (World.drewN_drewN _ _ _) (congrArg (World.drewN _) (Nat.add_assoc _ _ _))⟩)))
   repeat (go_quiet (first | (go_at_call 32; (with_reducible refine (spec_TurnAll.calls k t961 _ _ t962 _ _ t965 t968 t973 _ ?side1 ?side2 ?side3 ?side4 A12.out).mono ?_); (case side1 => exact nc_ (rR11 HO964.out).2.2); (case side2 => exact (rR11 HO964.out).2.1); (case side3 => exact nc_ (rR11 HO967.out).2.2); (case side4 => exact (rR11 HO967.out).2.1); rintro e w20 ⟨v974, rfl, ho0, hb⟩; have HO975 := Aside0.mk (Kd.R_lower (Kd.R_new' ho0 (Kd.R_lt (nr_ HO972.out))) (below_size (ne_ HB.out))); replace HO964 := kR_ HO964 hb; replace HO967 := kR_ HO967 hb; replace HO972 := Aside0.mk (Kd.R_elder' (nr_ HO972.out) (Kd.R_base ho0) hb); replace BK969 := kb_ BK969 hb; replace HB := kB_ HB hb; (try clear hb); (try clear hb2); (try clear hk); (try clear hi); (try clear ho0); obtain ⟨Ao21, co21, eo21⟩ := Kd.R_slice HO972.out; subst eo21; obtain ⟨Ao22, co22, eo22⟩ := Kd.R_slice HO975.out; subst eo22) | (go_at_call 31; (with_reducible refine (laws_wkInts.calls k _ _ t970 _ _ t973 false _ ?side1 ?side2 ?side3 ?side4 A13.out).mono ?_); (case side1 => exact nc_ (rR11 HO972.out).2.2); (case side2 => exact (rR11 HO972.out).2.1); (case side3 => exact nc_ (rR11 HO975.out).2.2); (case side4 => exact (rR11 HO975.out).2.1); rintro e w' ⟨rfl, ⟨nd, rfl⟩⟩; (try first | exact ⟨rfl, _, World.drewN_drewN _ _ _⟩ | exact ⟨rfl, _, Eq.trans (World.drewN_drewN _ _ _) (congrArg (World.drewN _) (Nat.add_assoc _ _ _))⟩))); try go_wp2_with (first | (go_at_call 32; (with_reducible refine (spec_TurnAll.calls k t961 _ _ t962 _ _ t965 t968 t973 _ ?side1 ?side2 ?side3 ?side4 A12.out).mono ?_); (case side1 => exact nc_ (rR11 HO964.out).2.2); (case side2 => exact (rR11 HO964.out).2.1); (case side3 => exact nc_ (rR11 HO967.out).2.2); (case side4 => exact (rR11 HO967.out).2.1); rintro e w20 ⟨v974, rfl, ho0, hb⟩; have HO975 := Aside0.mk (Kd.R_lower (Kd.R_new' ho0 (Kd.R_lt (nr_ HO972.out))) (below_size (ne_ HB.out))); replace HO964 := kR_ HO964 hb; replace HO967 := kR_ HO967 hb; replace HO972 := Aside0.mk (Kd.R_elder' (nr_ HO972.out) (Kd.R_base ho0) hb); replace BK969 := kb_ BK969 hb; replace HB := kB_ HB hb; (try clear hb); (try clear hb2); (try clear hk); (try clear hi); (try clear ho0); obtain ⟨Ao21, co21, eo21⟩ := Kd.R_slice HO972.out; subst eo21; obtain ⟨Ao22, co22, eo22⟩ := Kd.R_slice HO975.out; subst eo22) | (go_at_call 31; (with_reducible refine (laws_wkInts.calls k _ _ t970 _ _ t973 false _ ?side1 ?side2 ?side3 ?side4 A13.out).mono ?_); (case side1 => exact nc_ (rR11 HO972.out).2.2); (case side2 => exact (rR11 HO972.out).2.1); (case side3 => exact nc_ (rR11 HO975.out).2.2); (case side4 => exact (rR11 HO975.out).2.1); rintro e w' ⟨rfl, ⟨nd, rfl⟩⟩; (try first | exact ⟨rfl, _, World.drewN_drewN _ _ _⟩ | exact ⟨rfl, _, Eq.trans (World.drewN_drewN _ _ _) (congrArg (World.drewN _) (Nat.add_assoc _ _ _))⟩))))
   go_meet
   case rel => exact ⟨_, (true), ns_, H', ⟨by first | omega | exact Nat.le_refl _⟩, ⟨nr_ HO967.out⟩, ⟨by (with_reducible repeat (first | apply Kd.R_alloc | apply Kd.R_drewN | apply Kd.R_drew)); exact Kd.R_mono HO972.out (fun _ hk => trivial)⟩, ⟨nr_ HO964.out⟩, ⟨nb_ BK969.out⟩, ⟨ne_ HB.out⟩⟩
  case rest =>
   clear HC5
   try clear c2
   try clear c2b0
   try clear c2b1
   try clear hcz8_0
   try clear hcz8_1
   try clear hfz8_0
   try clear hfz8_1
   obtain ⟨kq, x33_4, rfl, HA, HJ4, HO_4, HO_6, HO_970001, BK969, HB⟩ := hcut
   cases kq with
   | zero => exact absurd HA.out (by simp [laws_FnTurnAll.j0])
   | succ kj4 =>
    have H := HA.out
    clear HA
    simp only [laws_FnTurnAll.j0] at H
    by_cases c23 : x33_4 = true
    ·subst c23
     rw [if_pos rfl] at H
     replace H := Option.bind_eq_some_iff.mp H
     obtain ⟨t977, A240, H⟩ := H
     replace H : ((laws_wkInts.f kj4 t970 t977).bind fun t980 => (some t980)) = some r := H
     have A24 := Aside0.mk A240
     clear A240
     replace H := Option.bind_eq_some_iff.mp H
     obtain ⟨t980, A250, H⟩ := H
     replace H : (some t980) = some r := H
     have A25 := Aside0.mk A250
     clear A250
     obtain rfl := Option.some.inj H
     obtain ⟨hcz26_0, hcz26_1, hfz26_0, hfz26_1⟩ := cz2_ BK969.out
     go_wp2_with (first | (go_at_call 32; (with_reducible refine (spec_TurnAll.calls kj4 t961 _ _ t962 _ _ t965 t968 t977 _ ?side1 ?side2 ?side3 ?side4 A24.out).mono ?_); (case side1 => exact nc_ (rR11 HO_970001.out).2.2); (case side2 => exact (rR11 HO_970001.out).2.1); (case side3 => exact nc_ (rR11 HO_4.out).2.2); (case side4 => exact (rR11 HO_4.out).2.1); rintro e w27 ⟨v978, rfl, ho0, hb⟩; have HO979 := Aside0.mk (Kd.R_lower (Kd.R_new' ho0 (Kd.R_lt (nr_ HO_6.out))) (below_size (ne_ HB.out))); replace HO_4 := kR_ HO_4 hb; replace HO_6 := Aside0.mk (Kd.R_elder' (nr_ HO_6.out) (Kd.R_base ho0) hb); replace HO_970001 := kR_ HO_970001 hb; replace BK969 := kb_ BK969 hb; replace HB := kB_ HB hb; (try clear hb); (try clear hb2); (try clear hk); (try clear hi); (try clear ho0); obtain ⟨Ao28, co28, eo28⟩ := Kd.R_slice HO_6.out; subst eo28; obtain ⟨Ao29, co29, eo29⟩ := Kd.R_slice HO979.out; subst eo29) | (go_at_call 31; (with_reducible refine (laws_wkInts.calls kj4 _ _ t970 _ _ t977 t980 _ ?side1 ?side2 ?side3 ?side4 A25.out).mono ?_); (case side1 => exact nc_ (rR11 HO_6.out).2.2); (case side2 => exact (rR11 HO_6.out).2.1); (case side3 => exact nc_ (rR11 HO979.out).2.2); (case side4 => exact (rR11 HO979.out).2.1); rintro e w' ⟨rfl, ⟨nd, rfl⟩⟩; (try first | exact ⟨rfl, _, World.drewN_drewN _ _ _⟩ | exact ⟨rfl, _, Eq.trans (World.drewN_drewN _ _ _) (congrArg (World.drewN _) (Nat.add_assoc _ _ _))⟩)))
     repeat (go_quiet (first | (go_at_call 32; (with_reducible refine (spec_TurnAll.calls kj4 t961 _ _ t962 _ _ t965 t968 t977 _ ?side1 ?side2 ?side3 ?side4 A24.out).mono ?_); (case side1 => exact nc_ (rR11 HO_970001.out).2.2); (case side2 => exact (rR11 HO_970001.out).2.1); (case side3 => exact nc_ (rR11 HO_4.out).2.2); (case side4 => exact (rR11 HO_4.out).2.1); rintro e w27 ⟨v978, rfl, ho0, hb⟩; have HO979 := Aside0.mk (Kd.R_lower (Kd.R_new' ho0 (Kd.R_lt (nr_ HO_6.out))) (below_size (ne_ HB.out))); replace HO_4 := kR_ HO_4 hb; replace HO_6 := Aside0.mk (Kd.R_elder' (nr_ HO_6.out) (Kd.R_base ho0) hb); replace HO_970001 := kR_ HO_970001 hb; replace BK969 := kb_ BK969 hb; replace HB := kB_ HB hb; (try clear hb); (try clear hb2); (try clear hk); (try clear hi); (try clear ho0); obtain ⟨Ao28, co28, eo28⟩ := Kd.R_slice HO_6.out; subst eo28; obtain ⟨Ao29, co29, eo29⟩ := Kd.R_slice HO979.out; subst eo29) | (go_at_call 31; (with_reducible refine (laws_wkInts.calls kj4 _ _ t970 _ _ t977 t980 _ ?side1 ?side2 ?side3 ?side4 A25.out).mono ?_); (case side1 => exact nc_ (rR11 HO_6.out).2.2); (case side2 => exact (rR11 HO_6.out).2.1); (case side3 => exact nc_ (rR11 HO979.out).2.2); (case side4 => exact (rR11 HO979.out).2.1); rintro e w' ⟨rfl, ⟨nd, rfl⟩⟩; (try first | exact ⟨rfl, _, World.drewN_drewN _ _ _⟩ | exact ⟨rfl, _, Eq.trans (World.drewN_drewN _ _ _) (congrArg (World.drewN _) (Nat.add_assoc _ _ _))⟩))); try go_wp2_with (first | (go_at_call 32; (with_reducible refine (spec_TurnAll.calls kj4 t961 _ _ t962 _ _ t965 t968 t977 _ ?side1 ?side2 ?side3 ?side4 A24.out).mono ?_); (case side1 => exact nc_ (rR11 HO_970001.out).2.2); (case side2 => exact (rR11 HO_970001.out).2.1); (case side3 => exact nc_ (rR11 HO_4.out).2.2); (case side4 => exact (rR11 HO_4.out).2.1); rintro e w27 ⟨v978, rfl, ho0, hb⟩; have HO979 := Aside0.mk (Kd.R_lower (Kd.R_new' ho0 (Kd.R_lt (nr_ HO_6.out))) (below_size (ne_ HB.out))); replace HO_4 := kR_ HO_4 hb; replace HO_6 := Aside0.mk (Kd.R_elder' (nr_ HO_6.out) (Kd.R_base ho0) hb); replace HO_970001 := kR_ HO_970001 hb; replace BK969 := kb_ BK969 hb; replace HB := kB_ HB hb; (try clear hb); (try clear hb2); (try clear hk); (try clear hi); (try clear ho0); obtain ⟨Ao28, co28, eo28⟩ := Kd.R_slice HO_6.out; subst eo28; obtain ⟨Ao29, co29, eo29⟩ := Kd.R_slice HO979.out; subst eo29) | (go_at_call 31; (with_reducible refine (laws_wkInts.calls kj4 _ _ t970 _ _ t977 t980 _ ?side1 ?side2 ?side3 ?side4 A25.out).mono ?_); (case side1 => exact nc_ (rR11 HO_6.out).2.2); (case side2 => exact (rR11 HO_6.out).2.1); (case side3 => exact nc_ (rR11 HO979.out).2.2); (case side4 => exact (rR11 HO979.out).2.1); rintro e w' ⟨rfl, ⟨nd, rfl⟩⟩; (try first | exact ⟨rfl, _, World.drewN_drewN _ _ _⟩ | exact ⟨rfl, _, Eq.trans (World.drewN_drewN _ _ _) (congrArg (World.drewN _) (Nat.add_assoc _ _ _))⟩))))
     go_ret
     exact ⟨nw_, ne_ HB.out⟩
    replace c23 := Bool.eq_false_iff.mpr c23
    subst c23
    have H1 : ((impl_NearAll.f kj4 t961 t962 t968).bind fun t981 => (laws_FnTurnAll.l0 kj4 t968 t970 t981 0 t961 t962)) = some r := by rw [if_neg (show ¬ (false = true) by decide)] at H; exact H
    clear H
    have H := H1
    clear H1
    replace H := Option.bind_eq_some_iff.mp H
    obtain ⟨t981, A300, H⟩ := H
    replace H : (laws_FnTurnAll.l0 kj4 t968 t970 t981 0 t961 t962) = some r := H
    have A30 := Aside0.mk A300
    clear A300
    have H' := Aside0.mk H
    clear H
    obtain ⟨hcz31_0, hcz31_1, hfz31_0, hfz31_1⟩ := cz2_ BK969.out
    go_wp2_with (first | (go_at_call 40; (with_reducible refine (impl_NearAll.calls kj4 t961 _ _ t962 t968 t981 _ ?side1 ?side2 A30.out).mono ?_); (case side1 => exact nc_ (rR11 HO_970001.out).2.2); (case side2 => exact (rR11 HO_970001.out).2.1); rintro e w32 ⟨v982, rfl, ho0, hb⟩; have HO983 := Aside0.mk (Kd.R_lower (Kd.R_new' ho0 (Kd.R_lt (nr_ HO_6.out))) (below_size (ne_ HB.out))); replace HO_4 := kR_ HO_4 hb; replace HO_6 := Aside0.mk (Kd.R_elder' (nr_ HO_6.out) (Kd.R_base ho0) hb); replace HO_970001 := kR_ HO_970001 hb; replace BK969 := kb_ BK969 hb; replace HB := kB_ HB hb; (try clear hb); (try clear hb2); (try clear hk); (try clear hi); (try clear ho0)))
    repeat (go_quiet (first | (go_at_call 40; (with_reducible refine (impl_NearAll.calls kj4 t961 _ _ t962 t968 t981 _ ?side1 ?side2 A30.out).mono ?_); (case side1 => exact nc_ (rR11 HO_970001.out).2.2); (case side2 => exact (rR11 HO_970001.out).2.1); rintro e w32 ⟨v982, rfl, ho0, hb⟩; have HO983 := Aside0.mk (Kd.R_lower (Kd.R_new' ho0 (Kd.R_lt (nr_ HO_6.out))) (below_size (ne_ HB.out))); replace HO_4 := kR_ HO_4 hb; replace HO_6 := Aside0.mk (Kd.R_elder' (nr_ HO_6.out) (Kd.R_base ho0) hb); replace HO_970001 := kR_ HO_970001 hb; replace BK969 := kb_ BK969 hb; replace HB := kB_ HB hb; (try clear hb); (try clear hb2); (try clear hk); (try clear hi); (try clear ho0))); try go_wp2_with (first | (go_at_call 40; (with_reducible refine (impl_NearAll.calls kj4 t961 _ _ t962 t968 t981 _ ?side1 ?side2 A30.out).mono ?_); (case side1 => exact nc_ (rR11 HO_970001.out).2.2); (case side2 => exact (rR11 HO_970001.out).2.1); rintro e w32 ⟨v982, rfl, ho0, hb⟩; have HO983 := Aside0.mk (Kd.R_lower (Kd.R_new' ho0 (Kd.R_lt (nr_ HO_6.out))) (below_size (ne_ HB.out))); replace HO_4 := kR_ HO_4 hb; replace HO_6 := Aside0.mk (Kd.R_elder' (nr_ HO_6.out) (Kd.R_base ho0) hb); replace HO_970001 := kR_ HO_970001 hb; replace BK969 := kb_ BK969 hb; replace HB := kB_ HB hb; (try clear hb); (try clear hb2); (try clear hk); (try clear hi); (try clear ho0))))
    go_loopg [8] kj4 (fun kq v8 w' => ∃ (x8_2 : Int), v8 = .int .i64 x8_2 ∧ Aside0 (laws_FnTurnAll.l0 kq t968 t970 t981 x8_2 t961 t962 = some r) ∧ Aside0 (kq ≤ kj4) ∧ Aside0 (Kd.R (Kd.int .i64) 3 w' w.heap.size (fun k_ => some k_ ≠ (v982 : Value).ownBlock) v971 t970) ∧ Aside0 (Kd.R (Kd.int .i64) 3 w' w.heap.size (fun k_ => some k_ ≠ (v971 : Value).ownBlock) v982 t981) ∧ Aside0 (Kd.R k33 33 w' w.heap.size (fun _ => True) (.slice Ao9 t962.length co9) t962) ∧ Aside0 (w'.heap[gb969]? = some (.cells #[.int .i64 t961, (.slice Ao9 t962.length co9)] 25 (0, 0))) ∧ Aside0 (Below w.heap.size w w'))
    case atStart => exact ⟨(0), ns_, H', ⟨Nat.le_refl _⟩, ⟨by (with_reducible repeat (first | apply Kd.R_alloc | apply Kd.R_drewN | apply Kd.R_drew)); exact Kd.R_mono HO_6.out (fun _ hk => by first | exact hk.2 | trivial | simp_all)⟩, ⟨by (with_reducible repeat (first | apply Kd.R_alloc | apply Kd.R_drewN | apply Kd.R_drew)); exact Kd.R_mono HO983.out (fun _ hk => by first | exact hk.2 | trivial | simp_all)⟩, ⟨nr_ HO_970001.out⟩, ⟨nb_ BK969.out⟩, ⟨ne_ HB.out⟩⟩
    case round =>
     clear H'
     try clear c2
     try clear c2b0
     try clear c2b1
     try clear c23
     try clear hcz31_0
     try clear hcz31_1
     try clear hcz8_0
     try clear hcz8_1
     try clear hfz31_0
     try clear hfz31_1
     try clear hfz8_0
     try clear hfz8_1
     obtain ⟨x8_2, rfl, HA, HK2, HO_6, HO_7, HO_970001, BK969, HB⟩ := hrel
     cases gk with
     | zero => exact absurd HA.out (by simp [laws_FnTurnAll.l0])
     | succ k2 =>
      have H := HA.out
      clear HA
      simp only [laws_FnTurnAll.l0] at H
      by_cases c33 : x8_2 < t961
      ·rw [if_pos c33] at H
       have c33b0 : decide (x8_2 < t961) = true := decide_eq_true c33
       clear c33
       by_cases c34 : 0 ≤ x8_2
       rotate_left
       ·rw [if_neg c34] at H
        exact absurd H (by simp)
       rw [if_pos c34] at H
       have c34b0 : decide (0 ≤ x8_2) = true := decide_eq_true c34
       clear c34
       by_cases c35 : x8_2 < (t970.length : Int)
       rotate_left
       ·rw [if_neg c35] at H
        exact absurd H (by simp)
       rw [if_pos c35] at H
       have c35b0 : decide (x8_2 < (t970.length : Int)) = true := decide_eq_true c35
       clear c35
       by_cases c36 : x8_2 < (t981.length : Int)
       rotate_left
       ·rw [if_neg c36] at H
        exact absurd H (by simp)
       rw [if_pos c36] at H
       have c36b0 : decide (x8_2 < (t981.length : Int)) = true := decide_eq_true c36
       clear c36
       by_cases c37 : (rd t970 x8_2) < (rd t981 x8_2)
       ·rw [if_pos c37] at H
        have c37b0 : decide ((rd t970 x8_2) < (rd t981 x8_2)) = true := decide_eq_true c37
        clear c37
        obtain rfl := Option.some.inj H
        obtain ⟨hcz38_0, hcz38_1, hfz38_0, hfz38_1⟩ := cz2_ BK969.out
        obtain ⟨Ao39, co39, eo39⟩ := Kd.R_slice HO_6.out
        subst eo39
        have p984 : 0 ≤ (x8_2 : Int) := of_decide_eq_true nx_
        have q984 : x8_2 < (t970.length : Int) := of_decide_eq_true nx_
        obtain ⟨ad984, e984, hx984_0⟩ := Kd.at_int (rR11 HO_6.out).2.2 x8_2 p984 q984
        cases e984
        replace p984 := eq_true p984
        replace q984 := eq_true q984
        obtain ⟨Ao40, co40, eo40⟩ := Kd.R_slice HO_7.out
        subst eo40
        have p985 : 0 ≤ (x8_2 : Int) := of_decide_eq_true nx_
        have q985 : x8_2 < (t981.length : Int) := of_decide_eq_true nx_
        obtain ⟨ad985, e985, hx985_0⟩ := Kd.at_int (rR11 HO_7.out).2.2 x8_2 p985 q985
        cases e985
        replace p985 := eq_true p985
        replace q985 := eq_true q985
        go_wp2
        repeat (go_quiet (fail); try go_wp2)
        go_ret
        exact ⟨nw_, ne_ HB.out⟩
       rw [if_neg c37] at H
       have c37b0 : decide ((rd t970 x8_2) < (rd t981 x8_2)) = false := decide_eq_false c37
       clear c37
       have H' := Aside0.mk H
       clear H
       obtain ⟨hcz41_0, hcz41_1, hfz41_0, hfz41_1⟩ := cz2_ BK969.out
       obtain ⟨Ao42, co42, eo42⟩ := Kd.R_slice HO_6.out
       subst eo42
       have p984 : 0 ≤ (x8_2 : Int) := of_decide_eq_true nx_
       have q984 : x8_2 < (t970.length : Int) := of_decide_eq_true nx_
       obtain ⟨ad984, e984, hx984_0⟩ := Kd.at_int (rR11 HO_6.out).2.2 x8_2 p984 q984
       cases e984
       replace p984 := eq_true p984
       replace q984 := eq_true q984
       obtain ⟨Ao43, co43, eo43⟩ := Kd.R_slice HO_7.out
       subst eo43
       have p985 : 0 ≤ (x8_2 : Int) := of_decide_eq_true nx_
       have q985 : x8_2 < (t981.length : Int) := of_decide_eq_true nx_
       obtain ⟨ad985, e985, hx985_0⟩ := Kd.at_int (rR11 HO_7.out).2.2 x8_2 p985 q985
       cases e985
       replace p985 := eq_true p985
       replace q985 := eq_true q985
       go_wp2
       repeat (go_quiet (fail); try go_wp2)
       go_roundg k2
       case measure => have := HJ4.out; have := HK2.out; omega
       case rel => exact ⟨(wrap64 (x8_2 + 1)), ns_, H', ⟨by have := HJ4.out; have := HK2.out; omega⟩, ⟨nr_ HO_6.out⟩, ⟨nr_ HO_7.out⟩, ⟨nr_ HO_970001.out⟩, ⟨nb_ BK969.out⟩, ⟨ne_ HB.out⟩⟩
      rw [if_neg c33] at H
      have c33b0 : decide (x8_2 < t961) = false := decide_eq_false c33
      clear c33
      by_cases c44 : 0 ≤ t968
      rotate_left
      ·rw [if_neg c44] at H
       exact absurd H (by simp)

      rw [if_pos c44] at H
      have c44b0 : decide (0 ≤ t968) = true := decide_eq_true c44
      clear c44
      by_cases c45 : t968 < (t970.length : Int)
      rotate_left
      ·rw [if_neg c45] at H
       exact absurd H (by simp)
      rw [if_pos c45] at H
      have c45b0 : decide (t968 < (t970.length : Int)) = true := decide_eq_true c45
      clear c45
      by_cases c46 : (rd t970 t968) = 0
      rotate_left
      ·rw [if_neg c46] at H
       have c46b0 : ((rd t970 t968) == 0) = false := beq_eq_false_iff_ne.mpr c46
       have c46b1 : ((rd t970 t968) != 0) = true := bne_iff_ne.mpr c46
       obtain rfl := Option.some.inj H
       obtain ⟨hcz54_0, hcz54_1, hfz54_0, hfz54_1⟩ := cz2_ BK969.out
       obtain ⟨Ao55, co55, eo55⟩ := Kd.R_slice HO_6.out
       subst eo55
       have p986 : 0 ≤ (t968 : Int) := of_decide_eq_true nx_
       have q986 : t968 < (t970.length : Int) := of_decide_eq_true nx_
       obtain ⟨ad986, e986, hx986_0⟩ := Kd.at_int (rR11 HO_6.out).2.2 t968 p986 q986
       cases e986
       replace p986 := eq_true p986
       replace q986 := eq_true q986
       go_wp2
       repeat (go_quiet (fail); try go_wp2)
       go_ret
       exact ⟨nw_, ne_ HB.out⟩
      rw [if_pos c46] at H
      have c46b0 : ((rd t970 t968) == 0) = true := beq_iff_eq.mpr c46
      have c46b1 : ((rd t970 t968) != 0) = false := bne_eq_false_iff_eq.mpr c46
      clear c46
      replace H := Option.bind_eq_some_iff.mp H
      obtain ⟨t987, A470, H⟩ := H
      replace H : ((laws_wkInts.f k2 t987 t981).bind fun t990 => (some t990)) = some r := H
      have A47 := Aside0.mk A470
      clear A470
      replace H := Option.bind_eq_some_iff.mp H
      obtain ⟨t990, A480, H⟩ := H
      replace H : (some t990) = some r := H
      have A48 := Aside0.mk A480
      clear A480
      obtain rfl := Option.some.inj H
      obtain ⟨hcz49_0, hcz49_1, hfz49_0, hfz49_1⟩ := cz2_ BK969.out
      obtain ⟨Ao50, co50, eo50⟩ := Kd.R_slice HO_6.out
      subst eo50
      have p986 : 0 ≤ (t968 : Int) := of_decide_eq_true nx_
      have q986 : t968 < (t970.length : Int) := of_decide_eq_true nx_
      obtain ⟨ad986, e986, hx986_0⟩ := Kd.at_int (rR11 HO_6.out).2.2 t968 p986 q986
      cases e986
      replace p986 := eq_true p986
      replace q986 := eq_true q986
      go_wp2_with (first | (go_at_call 30; (refine (impl_TurnAll.calls k2 t961 _ _ t962 _ _ ([] : List (S31)) t968 t987 _ ?side1 ?side2 ?side3 ?side4 A47.out).mono ?_); (case side1 => exact nc_ (rR11 HO_970001.out).2.2); (case side2 => exact (rR11 HO_970001.out).2.1); (case side3 => exact Kd.C_nil _ _); (case side4 => exact Nat.le_refl _); rintro e w51 ⟨v988, rfl, ho0, hb⟩; have HO989 := Aside0.mk (Kd.R_lower (Kd.R_new' (Kd.R_new' ho0 (Kd.R_lt (nr_ HO_6.out))) (Kd.R_lt (nr_ HO_7.out))) (below_size (ne_ HB.out))); replace HO_6 := Aside0.mk (Kd.R_elder' (nr_ HO_6.out) (Kd.R_base ho0) hb); replace HO_7 := Aside0.mk (Kd.R_elder' (nr_ HO_7.out) (Kd.R_base ho0) hb); replace HO_970001 := kR_ HO_970001 hb; replace BK969 := kb_ BK969 hb; replace HB := kB_ HB hb; (try clear hb); (try clear hb2); (try clear hk); (try clear hi); (try clear ho0); obtain ⟨Ao52, co52, eo52⟩ := Kd.R_slice HO989.out; subst eo52; obtain ⟨Ao53, co53, eo53⟩ := Kd.R_slice HO_7.out; subst eo53) | (go_at_call 31; (with_reducible refine (laws_wkInts.calls k2 _ _ t987 _ _ t981 t990 _ ?side1 ?side2 ?side3 ?side4 A48.out).mono ?_); (case side1 => exact nc_ (rR11 HO989.out).2.2); (case side2 => exact (rR11 HO989.out).2.1); (case side3 => exact nc_ (rR11 HO_7.out).2.2); (case side4 => exact (rR11 HO_7.out).2.1); rintro e w' ⟨rfl, ⟨nd, rfl⟩⟩; (try first | exact ⟨rfl, _, World.drewN_drewN _ _ _⟩ | exact ⟨rfl, _, Eq.trans (World.drewN_drewN _ _ _) (congrArg (World.drewN _) (Nat.add_assoc _ _ _))⟩)))
      repeat (go_quiet (first | (go_at_call 30; (refine (impl_TurnAll.calls k2 t961 _ _ t962 _ _ ([] : List (S31)) t968 t987 _ ?side1 ?side2 ?side3 ?side4 A47.out).mono ?_); (case side1 => exact nc_ (rR11 HO_970001.out).2.2); (case side2 => exact (rR11 HO_970001.out).2.1); (case side3 => exact Kd.C_nil _ _); (case side4 => exact Nat.le_refl _); rintro e w51 ⟨v988, rfl, ho0, hb⟩; have HO989 := Aside0.mk (Kd.R_lower (Kd.R_new' (Kd.R_new' ho0 (Kd.R_lt (nr_ HO_6.out))) (Kd.R_lt (nr_ HO_7.out))) (below_size (ne_ HB.out))); replace HO_6 := Aside0.mk (Kd.R_elder' (nr_ HO_6.out) (Kd.R_base ho0) hb); replace HO_7 := Aside0.mk (Kd.R_elder' (nr_ HO_7.out) (Kd.R_base ho0) hb); replace HO_970001 := kR_ HO_970001 hb; replace BK969 := kb_ BK969 hb; replace HB := kB_ HB hb; (try clear hb); (try clear hb2); (try clear hk); (try clear hi); (try clear ho0); obtain ⟨Ao52, co52, eo52⟩ := Kd.R_slice HO989.out; subst eo52; obtain ⟨Ao53, co53, eo53⟩ := Kd.R_slice HO_7.out; subst eo53) | (go_at_call 31; (with_reducible refine (laws_wkInts.calls k2 _ _ t987 _ _ t981 t990 _ ?side1 ?side2 ?side3 ?side4 A48.out).mono ?_); (case side1 => exact nc_ (rR11 HO989.out).2.2); (case side2 => exact (rR11 HO989.out).2.1); (case side3 => exact nc_ (rR11 HO_7.out).2.2); (case side4 => exact (rR11 HO_7.out).2.1); rintro e w' ⟨rfl, ⟨nd, rfl⟩⟩; (try first | exact ⟨rfl, _, World.drewN_drewN _ _ _⟩ | exact ⟨rfl, _, Eq.trans (World.drewN_drewN _ _ _) (congrArg (World.drewN _) (Nat.add_assoc _ _ _))⟩))); try go_wp2_with (first | (go_at_call 30; (refine (impl_TurnAll.calls k2 t961 _ _ t962 _ _ ([] : List (S31)) t968 t987 _ ?side1 ?side2 ?side3 ?side4 A47.out).mono ?_); (case side1 => exact nc_ (rR11 HO_970001.out).2.2); (case side2 => exact (rR11 HO_970001.out).2.1); (case side3 => exact Kd.C_nil _ _); (case side4 => exact Nat.le_refl _); rintro e w51 ⟨v988, rfl, ho0, hb⟩; have HO989 := Aside0.mk (Kd.R_lower (Kd.R_new' (Kd.R_new' ho0 (Kd.R_lt (nr_ HO_6.out))) (Kd.R_lt (nr_ HO_7.out))) (below_size (ne_ HB.out))); replace HO_6 := Aside0.mk (Kd.R_elder' (nr_ HO_6.out) (Kd.R_base ho0) hb); replace HO_7 := Aside0.mk (Kd.R_elder' (nr_ HO_7.out) (Kd.R_base ho0) hb); replace HO_970001 := kR_ HO_970001 hb; replace BK969 := kb_ BK969 hb; replace HB := kB_ HB hb; (try clear hb); (try clear hb2); (try clear hk); (try clear hi); (try clear ho0); obtain ⟨Ao52, co52, eo52⟩ := Kd.R_slice HO989.out; subst eo52; obtain ⟨Ao53, co53, eo53⟩ := Kd.R_slice HO_7.out; subst eo53) | (go_at_call 31; (with_reducible refine (laws_wkInts.calls k2 _ _ t987 _ _ t981 t990 _ ?side1 ?side2 ?side3 ?side4 A48.out).mono ?_); (case side1 => exact nc_ (rR11 HO989.out).2.2); (case side2 => exact (rR11 HO989.out).2.1); (case side3 => exact nc_ (rR11 HO_7.out).2.2); (case side4 => exact (rR11 HO_7.out).2.1); rintro e w' ⟨rfl, ⟨nd, rfl⟩⟩; (try first | exact ⟨rfl, _, World.drewN_drewN _ _ _⟩ | exact ⟨rfl, _, Eq.trans (World.drewN_drewN _ _ _) (congrArg (World.drewN _) (Nat.add_assoc _ _ _))⟩))))
      go_ret
      exact ⟨nw_, ne_ HB.out⟩
/-- THE ONE PURE STATEMENT of laws_FnTurnAll: yours. -/
def laws_FnTurnAll.Pure : Prop := ∀ (l0 : List Int), l0.length ≤ maxLen → l0.length * 1 ≤ 140737488351232 → (∀ x ∈ l0, (Lit.int .u8 x).wf = true) → ∃ k, laws_FnTurnAll.f k l0 = some true
theorem laws_FnTurnAll.walk (P : laws_FnTurnAll.Pure) (a0 : Option Addr) (len0 cap0 : Nat) (z0 : List Int) (w : World) (w0 : (a0 = none ∧ len0 = 0 ∧ cap0 = 0 ∧ z0 = []) ∨ ∃ x, a0 = some x ∧ len0 ≤ cap0 ∧ cap0 ≤ maxLen ∧ z0.length = cap0 ∧ (∀ i, i < z0.length → w.cell? (x.add i) = some (.int .u8 (z0.getD i 0))) ∧ ∀ n ∈ z0, (Lit.int .u8 n).wf = true) (y0 : len0 * 1 ≤ 140737488351232) :
    Calls Try.prog 11 #[.slice a0 len0 cap0] w fun e w' => e = .returned (.bool true) ∧ Below w.heap.size w w' := by
  obtain ⟨l0, rfl, hr0, hm0, hw0, hc0⟩ := ReadsInt.ofRowC w0
  obtain ⟨k, h⟩ := P l0 hm0 y0 hw0
  refine (laws_FnTurnAll.calls k _ _ l0 true w (Kd.C_of_reads (d := (0 : Int)) (h1 := fun _ => rfl) hr0) hc0 h).mono ?_
  rintro e w' ⟨rfl, hd⟩
  exact ⟨rfl, hd⟩

end Go.Proofs.Ytcfmejfmjjgoaaa.Print
