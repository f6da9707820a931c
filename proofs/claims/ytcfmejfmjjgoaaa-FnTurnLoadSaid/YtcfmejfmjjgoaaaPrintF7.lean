-- Made by this session's own program (wip/patch_print.py, over the kit's print). Lean checks it.
import Derived.Test.YtcfmejfmjjgoaaaPrint0
import Derived.Test.YtcfmejfmjjgoaaaPrintF29
import Derived.Test.YtcfmejfmjjgoaaaPrintF30
import Derived.Test.YtcfmejfmjjgoaaaPrintF31
import Derived.Test.YtcfmejfmjjgoaaaPrintF32
namespace Go.Proofs.Ytcfmejfmjjgoaaa.Print
open Go.RowKit Go.Proofs.YtcfmejfmjjgoaaaW.PrintWords Go.Proofs.YtcfmejfmjjgoaaaW.PrintLast Go.Proofs.YtcfmejfmjjgoaaaW.PrintMore Go.Proofs.YtcfmejfmjjgoaaaX
attribute [local go_sem] max2_int min2_int max_two min_two max_three min_three max_four min_four   -- for this text's walks alone
set_option linter.unusedVariables false
set_option linter.unusedSimpArgs false

abbrev rR7 := @Kd.R_reads'
/-! ### laws_FnTurnLoad: function 7 -/
mutual
def laws_FnTurnLoad.j0 : Nat → List (S31) → Int → List Int → Bool → Int → List (S33) → Option (Bool)
  | 0, _, _, _, _, _, _ => none
  | k + 1, x4, x5, x6, x35, x680000, x680001 => if x35 = true then ((spec_TurnAll.f k x680000 x680001 x4 x5).bind fun t687 => ((laws_wkInts.f k x6 t687).bind fun t690 => (some t690))) else (laws_FnTurnLoad.l0 k x4 x5 x6 (([] : List (S31))) 0 x680000 x680001)
def laws_FnTurnLoad.l0 : Nat → List (S31) → Int → List Int → List (S31) → Int → Int → List (S33) → Option (Bool)
  | 0, _, _, _, _, _, _, _ => none
  | k + 1, x4, x5, x6, x7, x8, x680000, x680001 => if x8 < (x4.length : Int) then (if 0 ≤ x8 then (if ((rd_T31 x4 x8).f2) < 0 then (if x7.length < 5864062014805 then (laws_FnTurnLoad.l0 k x4 x5 x6 (x7 ++ [(⟨(rd_T31 x4 x8).f0, (rd_T31 x4 x8).f1, (rd_T31 x4 x8).f2⟩ : S31)]) (wrap64 (x8 + 1)) x680000 x680001) else (none)) else (laws_FnTurnLoad.l0 k x4 x5 x6 x7 (wrap64 (x8 + 1)) x680000 x680001)) else (none)) else ((impl_TurnAll.f k x680000 x680001 x7 x5).bind fun t699 => (laws_FnTurnLoad.l1 k x6 t699 0 x680000 x680001))
def laws_FnTurnLoad.l1 : Nat → List Int → List Int → Int → Int → List (S33) → Option (Bool)
  | 0, _, _, _, _, _ => none
  | k + 1, x6, x9, x10, x680000, x680001 => if x10 < x680000 then (if 0 ≤ x10 then (if x10 < (x9.length : Int) then (if x10 < (x6.length : Int) then (if (rd x9 x10) > (rd x6 x10) then (some false) else (if ((decide ((rd x9 x10) < 99999)) != (decide ((rd x6 x10) < 99999))) = true then (some false) else (laws_FnTurnLoad.l1 k x6 x9 (wrap64 (x10 + 1)) x680000 x680001))) else (none)) else (none)) else (none)) else (some ((x9.length : Int) == x680000))
end
def laws_FnTurnLoad.f (k : Nat) (l0 : List Int) : Option (Bool) := if (l0.length : Int) > 1048576 then (some true) else ((spec_DrawTurnAll.f k l0).bind fun bt671 => ((impl_TurnAll.f k bt671.1 bt671.2.1 bt671.2.2.1 bt671.2.2.2).bind fun t680 => ((spec_TurnAll.f k bt671.1 bt671.2.1 bt671.2.2.1 bt671.2.2.2).bind fun t683 => ((laws_wkInts.f k t680 t683).bind fun t686 => (if t686 = true then (laws_FnTurnLoad.j0 k bt671.2.2.1 bt671.2.2.2 t680 ((t680.length : Int) == 0) bt671.1 bt671.2.1) else (laws_FnTurnLoad.j0 k bt671.2.2.1 bt671.2.2.2 t680 true bt671.1 bt671.2.1))))))
set_option maxHeartbeats 200000000 in
set_option maxRecDepth 100000 in
theorem laws_FnTurnLoad.calls (k : Nat) (A0 : Option Addr) (c0 : Nat) (l0 : List Int) (r : Bool) (w : World) (hr0 : Kd.C (Kd.int .u8) w A0 l0.length l0) (hc0 : l0.length ≤ c0) (h : laws_FnTurnLoad.f k l0 = some r) :
    Calls Try.prog 7 #[.slice A0 l0.length c0] w fun e w' => e = .returned (.bool r) ∧ Below w.heap.size w w' := by
  have hu25 := Try.underlying25
  have hu31 := Try.underlying31
  have HR0 := Aside0.mk hr0
  have HC0 := Aside0.mk hc0
  clear hr0 hc0
  have HB := Aside0.mk (Below.refl w.heap.size w)
  have H : (if (l0.length : Int) > 1048576 then (some true) else ((spec_DrawTurnAll.f k l0).bind fun bt671 => ((impl_TurnAll.f k bt671.1 bt671.2.1 bt671.2.2.1 bt671.2.2.2).bind fun t680 => ((spec_TurnAll.f k bt671.1 bt671.2.1 bt671.2.2.1 bt671.2.2.2).bind fun t683 => ((laws_wkInts.f k t680 t683).bind fun t686 => (if t686 = true then (laws_FnTurnLoad.j0 k bt671.2.2.1 bt671.2.2.2 t680 ((t680.length : Int) == 0) bt671.1 bt671.2.1) else (laws_FnTurnLoad.j0 k bt671.2.2.1 bt671.2.2.2 t680 true bt671.1 bt671.2.1))))))) = some r := h
  clear h
  by_cases c2 : (l0.length : Int) > 1048576
  ·rw [if_pos c2] at H
   have c2b0 : decide (1048576 < (l0.length : Int)) = true := decide_eq_true c2
   have c2b1 : decide (1048576 < l0.length) = true := decide_eq_true (by omega)
   clear c2
   obtain rfl := Option.some.inj H
   go_enter Try.func7, Try.ntmps7
   go_wp2
   repeat (go_quiet (fail); try go_wp2)
   go_ret
   exact ⟨nw_, ne_ HB.out⟩
  rw [if_neg c2] at H
  have c2b0 : decide (1048576 < (l0.length : Int)) = false := decide_eq_false c2
  have c2b1 : decide (1048576 < l0.length) = false := decide_eq_false (by omega)
  clear c2
  replace H := Option.bind_eq_some_iff.mp H
  obtain ⟨⟨t671, t672, t675, t678⟩, A30, H⟩ := H
  try dsimp only at H
  have A3 := Aside0.mk A30
  clear A30
  replace H := Option.bind_eq_some_iff.mp H
  obtain ⟨t680, A40, H⟩ := H
  try dsimp only at H
  have A4 := Aside0.mk A40
  clear A40
  have HC5 := Aside0.mk H
  clear H
  go_enter Try.func7, Try.ntmps7
  go_upto_region 5 with (first | (go_at_call 29; (with_reducible refine (spec_DrawTurnAll.calls k _ _ l0 t671 t672 t675 t678 _ ?side1 ?side2 A3.out).mono ?_); (case side1 => repeat (first | exact HR0.out | (with_reducible refine Kd.C_alloc ?_ _) | (with_reducible refine Kd.C_drewN ?_ _) | (with_reducible refine Kd.C_drew ?_))); (case side2 => exact HC0.out); rintro e w6 ⟨v673, v676, rfl, ho0, ho1, hb⟩; have HO674 := Aside0.mk (Kd.R_lower ho0 (below_size (ne_ HB.out))); have HO677 := Aside0.mk (Kd.R_lower ho1 (below_size (ne_ HB.out))); replace HB := kB_ HB hb; (try clear hb); (try clear hb2); (try clear hk); (try clear hi); (try clear ho0); (try clear ho1)) | ((with_reducible refine gate_dst (N := 3) rfl ?_); (try (refine gate_guard (by rfl) ?_; dsimp only)); refine bx_ 3 #[.int .i64 0, .slice none 0 0] 25 ?_; intro gb679 hg w7 hbox hb; have BK679 := Aside0.mk (hbox); have GW679 := Aside0.mk (zs_ hg (ne_ HB.out)); have GE679 := Aside0.mk (zs_ hg (ne_ HB.out)); replace HO674 := kR_ HO674 hb; replace HO677 := kR_ HO677 hb; replace HB := kB_ HB hb; clear hb hbox hg; obtain ⟨hcz8_0, hcz8_1, hfz8_0, hfz8_1⟩ := cz2_ BK679.out; obtain ⟨Ao9, co9, eo9⟩ := Kd.R_slice HO674.out; subst eo9; obtain ⟨Ao10, co10, eo10⟩ := Kd.R_slice HO677.out; subst eo10) | (go_at_call 30; (with_reducible refine (impl_TurnAll.calls k t671 _ _ t672 _ _ t675 t678 t680 _ ?side1 ?side2 ?side3 ?side4 A4.out).mono ?_); (case side1 => refine (rR7 (e := 33) (base := w.heap.size) (ok := fun k_ => True) (n := t672.length) (c := co9) ?_).2.2; exact (by (with_reducible repeat (first | apply Kd.R_alloc | apply Kd.R_drewN | apply Kd.R_drew)); exact (Kd.R_mono (rf2_ (Kd.R_types HO674.out BK679.out (by decide))) (fun _ h_ => h_.1)))); (case side2 => exact (rR7 HO674.out).2.1); (case side3 => refine (rR7 (e := 31) (base := w.heap.size) (ok := fun k_ => True) (n := t675.length) (c := co10) ?_).2.2; exact (by (with_reducible repeat (first | apply Kd.R_alloc | apply Kd.R_drewN | apply Kd.R_drew)); exact (Kd.R_mono (rf2_ (Kd.R_types HO677.out BK679.out (by decide))) (fun _ h_ => h_.1)))); (case side4 => exact (rR7 HO677.out).2.1); rintro e w11 ⟨v681, rfl, ho0, hb⟩; have HO682 := Aside0.mk (Kd.R_lower ho0 (below_size (ne_ HB.out))); replace HO674 := Aside0.mk (Kd.R_below (by (with_reducible repeat (first | apply Kd.R_alloc | apply Kd.R_drewN | apply Kd.R_drew)); exact (Kd.R_mono (rf2_ (Kd.R_types HO674.out BK679.out (by decide))) (fun _ h_ => h_.1))) hb); replace HO677 := Aside0.mk (Kd.R_below (by (with_reducible repeat (first | apply Kd.R_alloc | apply Kd.R_drewN | apply Kd.R_drew)); exact (Kd.R_mono (rf2_ (Kd.R_types HO677.out BK679.out (by decide))) (fun _ h_ => h_.1))) hb); replace BK679 := Aside0.mk (blk_below (g := gb679) (o := .cells #[.int .i64 t671, .slice Ao9 t672.length co9] 25 (0, 0)) (np_ BK679.out) hb); replace HB := kB_ HB hb; (try clear hb); (try clear hb2); (try clear hk); (try clear hi); (try clear ho0)))
  repeat (go_quiet (first | (go_at_call 29; (with_reducible refine (spec_DrawTurnAll.calls k _ _ l0 t671 t672 t675 t678 _ ?side1 ?side2 A3.out).mono ?_); (case side1 => repeat (first | exact HR0.out | (with_reducible refine Kd.C_alloc ?_ _) | (with_reducible refine Kd.C_drewN ?_ _) | (with_reducible refine Kd.C_drew ?_))); (case side2 => exact HC0.out); rintro e w6 ⟨v673, v676, rfl, ho0, ho1, hb⟩; have HO674 := Aside0.mk (Kd.R_lower ho0 (below_size (ne_ HB.out))); have HO677 := Aside0.mk (Kd.R_lower ho1 (below_size (ne_ HB.out))); replace HB := kB_ HB hb; (try clear hb); (try clear hb2); (try clear hk); (try clear hi); (try clear ho0); (try clear ho1)) | ((with_reducible refine gate_dst (N := 3) rfl ?_); (try (refine gate_guard (by rfl) ?_; dsimp only)); refine bx_ 3 #[.int .i64 0, .slice none 0 0] 25 ?_; intro gb679 hg w7 hbox hb; have BK679 := Aside0.mk (hbox); have GW679 := Aside0.mk (zs_ hg (ne_ HB.out)); have GE679 := Aside0.mk (zs_ hg (ne_ HB.out)); replace HO674 := kR_ HO674 hb; replace HO677 := kR_ HO677 hb; replace HB := kB_ HB hb; clear hb hbox hg; obtain ⟨hcz8_0, hcz8_1, hfz8_0, hfz8_1⟩ := cz2_ BK679.out; obtain ⟨Ao9, co9, eo9⟩ := Kd.R_slice HO674.out; subst eo9; obtain ⟨Ao10, co10, eo10⟩ := Kd.R_slice HO677.out; subst eo10) | (go_at_call 30; (with_reducible refine (impl_TurnAll.calls k t671 _ _ t672 _ _ t675 t678 t680 _ ?side1 ?side2 ?side3 ?side4 A4.out).mono ?_); (case side1 => refine (rR7 (e := 33) (base := w.heap.size) (ok := fun k_ => True) (n := t672.length) (c := co9) ?_).2.2; exact (by (with_reducible repeat (first | apply Kd.R_alloc | apply Kd.R_drewN | apply Kd.R_drew)); exact (Kd.R_mono (rf2_ (Kd.R_types HO674.out BK679.out (by decide))) (fun _ h_ => h_.1)))); (case side2 => exact (rR7 HO674.out).2.1); (case side3 => refine (rR7 (e := 31) (base := w.heap.size) (ok := fun k_ => True) (n := t675.length) (c := co10) ?_).2.2; exact (by (with_reducible repeat (first | apply Kd.R_alloc | apply Kd.R_drewN | apply Kd.R_drew)); exact (Kd.R_mono (rf2_ (Kd.R_types HO677.out BK679.out (by decide))) (fun _ h_ => h_.1)))); (case side4 => exact (rR7 HO677.out).2.1); rintro e w11 ⟨v681, rfl, ho0, hb⟩; have HO682 := Aside0.mk (Kd.R_lower ho0 (below_size (ne_ HB.out))); replace HO674 := Aside0.mk (Kd.R_below (by (with_reducible repeat (first | apply Kd.R_alloc | apply Kd.R_drewN | apply Kd.R_drew)); exact (Kd.R_mono (rf2_ (Kd.R_types HO674.out BK679.out (by decide))) (fun _ h_ => h_.1))) hb); replace HO677 := Aside0.mk (Kd.R_below (by (with_reducible repeat (first | apply Kd.R_alloc | apply Kd.R_drewN | apply Kd.R_drew)); exact (Kd.R_mono (rf2_ (Kd.R_types HO677.out BK679.out (by decide))) (fun _ h_ => h_.1))) hb); replace BK679 := Aside0.mk (blk_below (g := gb679) (o := .cells #[.int .i64 t671, .slice Ao9 t672.length co9] 25 (0, 0)) (np_ BK679.out) hb); replace HB := kB_ HB hb; (try clear hb); (try clear hb2); (try clear hk); (try clear hi); (try clear ho0))); go_upto_region 5 with (first | (go_at_call 29; (with_reducible refine (spec_DrawTurnAll.calls k _ _ l0 t671 t672 t675 t678 _ ?side1 ?side2 A3.out).mono ?_); (case side1 => repeat (first | exact HR0.out | (with_reducible refine Kd.C_alloc ?_ _) | (with_reducible refine Kd.C_drewN ?_ _) | (with_reducible refine Kd.C_drew ?_))); (case side2 => exact HC0.out); rintro e w6 ⟨v673, v676, rfl, ho0, ho1, hb⟩; have HO674 := Aside0.mk (Kd.R_lower ho0 (below_size (ne_ HB.out))); have HO677 := Aside0.mk (Kd.R_lower ho1 (below_size (ne_ HB.out))); replace HB := kB_ HB hb; (try clear hb); (try clear hb2); (try clear hk); (try clear hi); (try clear ho0); (try clear ho1)) | ((with_reducible refine gate_dst (N := 3) rfl ?_); (try (refine gate_guard (by rfl) ?_; dsimp only)); refine bx_ 3 #[.int .i64 0, .slice none 0 0] 25 ?_; intro gb679 hg w7 hbox hb; have BK679 := Aside0.mk (hbox); have GW679 := Aside0.mk (zs_ hg (ne_ HB.out)); have GE679 := Aside0.mk (zs_ hg (ne_ HB.out)); replace HO674 := kR_ HO674 hb; replace HO677 := kR_ HO677 hb; replace HB := kB_ HB hb; clear hb hbox hg; obtain ⟨hcz8_0, hcz8_1, hfz8_0, hfz8_1⟩ := cz2_ BK679.out; obtain ⟨Ao9, co9, eo9⟩ := Kd.R_slice HO674.out; subst eo9; obtain ⟨Ao10, co10, eo10⟩ := Kd.R_slice HO677.out; subst eo10) | (go_at_call 30; (with_reducible refine (impl_TurnAll.calls k t671 _ _ t672 _ _ t675 t678 t680 _ ?side1 ?side2 ?side3 ?side4 A4.out).mono ?_); (case side1 => refine (rR7 (e := 33) (base := w.heap.size) (ok := fun k_ => True) (n := t672.length) (c := co9) ?_).2.2; exact (by (with_reducible repeat (first | apply Kd.R_alloc | apply Kd.R_drewN | apply Kd.R_drew)); exact (Kd.R_mono (rf2_ (Kd.R_types HO674.out BK679.out (by decide))) (fun _ h_ => h_.1)))); (case side2 => exact (rR7 HO674.out).2.1); (case side3 => refine (rR7 (e := 31) (base := w.heap.size) (ok := fun k_ => True) (n := t675.length) (c := co10) ?_).2.2; exact (by (with_reducible repeat (first | apply Kd.R_alloc | apply Kd.R_drewN | apply Kd.R_drew)); exact (Kd.R_mono (rf2_ (Kd.R_types HO677.out BK679.out (by decide))) (fun _ h_ => h_.1)))); (case side4 => exact (rR7 HO677.out).2.1); rintro e w11 ⟨v681, rfl, ho0, hb⟩; have HO682 := Aside0.mk (Kd.R_lower ho0 (below_size (ne_ HB.out))); replace HO674 := Aside0.mk (Kd.R_below (by (with_reducible repeat (first | apply Kd.R_alloc | apply Kd.R_drewN | apply Kd.R_drew)); exact (Kd.R_mono (rf2_ (Kd.R_types HO674.out BK679.out (by decide))) (fun _ h_ => h_.1))) hb); replace HO677 := Aside0.mk (Kd.R_below (by (with_reducible repeat (first | apply Kd.R_alloc | apply Kd.R_drewN | apply Kd.R_drew)); exact (Kd.R_mono (rf2_ (Kd.R_types HO677.out BK679.out (by decide))) (fun _ h_ => h_.1))) hb); replace BK679 := Aside0.mk (blk_below (g := gb679) (o := .cells #[.int .i64 t671, .slice Ao9 t672.length co9] 25 (0, 0)) (np_ BK679.out) hb); replace HB := kB_ HB hb; (try clear hb); (try clear hb2); (try clear hk); (try clear hi); (try clear ho0))))
  (try simp only [Act.put, List.setIfInBounds_toArray, List.set_cons_zero, List.set_cons_succ])
  go_cut [35] (fun v35 wc => ∃ (kq : Nat) (x35_4 : Bool), v35 = .bool x35_4 ∧ Aside0 (laws_FnTurnLoad.j0 kq t675 t678 t680 x35_4 t671 t672 = some r) ∧ Aside0 (kq ≤ k) ∧ Aside0 (Kd.R k31 31 wc w.heap.size (fun _ => True) (.slice Ao10 t675.length co10) t675) ∧ Aside0 (Kd.R (Kd.int .i64) 3 wc w.heap.size (fun _ => True) v681 t680) ∧ Aside0 (Kd.R k33 33 wc w.heap.size (fun _ => True) (.slice Ao9 t672.length co9) t672) ∧ Aside0 (wc.heap[gb679]? = some (.cells #[.int .i64 t671, (.slice Ao9 t672.length co9)] 25 (0, 0))) ∧ Aside0 (Below w.heap.size w wc))
  case first =>
   have H := HC5.out
   clear HC5
   replace H := Option.bind_eq_some_iff.mp H
   obtain ⟨t683, A120, H⟩ := H
   try dsimp only at H
   have A12 := Aside0.mk A120
   clear A120
   replace H := Option.bind_eq_some_iff.mp H
   obtain ⟨t686, A130, H⟩ := H
   try dsimp only at H
   have A13 := Aside0.mk A130
   clear A130
   by_cases c14 : t686 = true
   ·subst c14
    rw [if_pos rfl] at H
    have H' := Aside0.mk H
    clear H
    obtain ⟨hcz15_0, hcz15_1, hfz15_0, hfz15_1⟩ := cz2_ BK679.out
    go_wp2_with (first | (go_at_call 32; (with_reducible refine (spec_TurnAll.calls k t671 _ _ t672 _ _ t675 t678 t683 _ ?side1 ?side2 ?side3 ?side4 A12.out).mono ?_); (case side1 => exact nc_ (rR7 HO674.out).2.2); (case side2 => exact (rR7 HO674.out).2.1); (case side3 => exact nc_ (rR7 HO677.out).2.2); (case side4 => exact (rR7 HO677.out).2.1); rintro e w16 ⟨v684, rfl, ho0, hb⟩; have HO685 := Aside0.mk (Kd.R_lower (Kd.R_new' ho0 (Kd.R_lt (nr_ HO682.out))) (below_size (ne_ HB.out))); replace HO674 := kR_ HO674 hb; replace HO677 := kR_ HO677 hb; replace HO682 := Aside0.mk (Kd.R_elder' (nr_ HO682.out) (Kd.R_base ho0) hb); replace BK679 := kb_ BK679 hb; replace HB := kB_ HB hb; (try clear hb); (try clear hb2); (try clear hk); (try clear hi); (try clear ho0); obtain ⟨Ao17, co17, eo17⟩ := Kd.R_slice HO682.out; subst eo17; obtain ⟨Ao18, co18, eo18⟩ := Kd.R_slice HO685.out; subst eo18) | (go_at_call 31; (with_reducible refine (laws_wkInts.calls k _ _ t680 _ _ t683 true _ ?side1 ?side2 ?side3 ?side4 A13.out).mono ?_); (case side1 => exact nc_ (rR7 HO682.out).2.2); (case side2 => exact (rR7 HO682.out).2.1); (case side3 => exact nc_ (rR7 HO685.out).2.2); (case side4 => exact (rR7 HO685.out).2.1); rintro e w' ⟨rfl, ⟨nd, rfl⟩⟩; (try first | exact ⟨rfl, _, World.drewN_drewN _ _ _⟩ | exact ⟨rfl, _, Eq.trans (World.drewN_drewN _ _ _) (congrArg (World.drewN _) (Nat.add_assoc _ _ _))⟩)))
    repeat (go_quiet (first | (go_at_call 32; (with_reducible refine (spec_TurnAll.calls k t671 _ _ t672 _ _ t675 t678 t683 _ ?side1 ?side2 ?side3 ?side4 A12.out).mono ?_); (case side1 => exact nc_ (rR7 HO674.out).2.2); (case side2 => exact (rR7 HO674.out).2.1); (case side3 => exact nc_ (rR7 HO677.out).2.2); (case side4 => exact (rR7 HO677.out).2.1); rintro e w16 ⟨v684, rfl, ho0, hb⟩; have HO685 := Aside0.mk (Kd.R_lower (Kd.R_new' ho0 (Kd.R_lt (nr_ HO682.out))) (below_size (ne_ HB.out))); replace HO674 := kR_ HO674 hb; replace HO677 := kR_ HO677 hb; replace HO682 := Aside0.mk (Kd.R_elder' (nr_ HO682.out) (Kd.R_base ho0) hb); replace BK679 := kb_ BK679 hb; replace HB := kB_ HB hb; (try clear hb); (try clear hb2); (try clear hk); (try clear hi); (try clear ho0); obtain ⟨Ao17, co17, eo17⟩ := Kd.R_slice HO682.out; subst eo17; obtain ⟨Ao18, co18, eo18⟩ := Kd.R_slice HO685.out; subst eo18) | (go_at_call 31; (with_reducible refine (laws_wkInts.calls k _ _ t680 _ _ t683 true _ ?side1 ?side2 ?side3 ?side4 A13.out).mono ?_); (case side1 => exact nc_ (rR7 HO682.out).2.2); (case side2 => exact (rR7 HO682.out).2.1); (case side3 => exact nc_ (rR7 HO685.out).2.2); (case side4 => exact (rR7 HO685.out).2.1); rintro e w' ⟨rfl, ⟨nd, rfl⟩⟩; (try first | exact ⟨rfl, _, World.drewN_drewN _ _ _⟩ | exact ⟨rfl, _, Eq.trans (World.drewN_drewN _ _ _) (congrArg (World.drewN _) (Nat.add_assoc _ _ _))⟩))); try go_wp2_with (first | (go_at_call 32; (with_reducible refine (spec_TurnAll.calls k t671 _ _ t672 _ _ t675 t678 t683 _ ?side1 ?side2 ?side3 ?side4 A12.out).mono ?_); (case side1 => exact nc_ (rR7 HO674.out).2.2); (case side2 => exact (rR7 HO674.out).2.1); (case side3 => exact nc_ (rR7 HO677.out).2.2); (case side4 => exact (rR7 HO677.out).2.1); rintro e w16 ⟨v684, rfl, ho0, hb⟩; have HO685 := Aside0.mk (Kd.R_lower (Kd.R_new' ho0 (Kd.R_lt (nr_ HO682.out))) (below_size (ne_ HB.out))); replace HO674 := kR_ HO674 hb; replace HO677 := kR_ HO677 hb; replace HO682 := Aside0.mk (Kd.R_elder' (nr_ HO682.out) (Kd.R_base ho0) hb); replace BK679 := kb_ BK679 hb; replace HB := kB_ HB hb; (try clear hb); (try clear hb2); (try clear hk); (try clear hi); (try clear ho0); obtain ⟨Ao17, co17, eo17⟩ := Kd.R_slice HO682.out; subst eo17; obtain ⟨Ao18, co18, eo18⟩ := Kd.R_slice HO685.out; subst eo18) | (go_at_call 31; (with_reducible refine (laws_wkInts.calls k _ _ t680 _ _ t683 true _ ?side1 ?side2 ?side3 ?side4 A13.out).mono ?_); (case side1 => exact nc_ (rR7 HO682.out).2.2); (case side2 => exact (rR7 HO682.out).2.1); (case side3 => exact nc_ (rR7 HO685.out).2.2); (case side4 => exact (rR7 HO685.out).2.1); rintro e w' ⟨rfl, ⟨nd, rfl⟩⟩; (try first | exact ⟨rfl, _, World.drewN_drewN _ _ _⟩ | exact ⟨rfl, _, Eq.trans (World.drewN_drewN _ _ _) (congrArg (World.drewN _) (Nat.add_assoc _ _ _))⟩))))
    go_meet
    case rel => exact ⟨_, (((t680.length : Int) == 0)), ns_, H', ⟨by first | omega | exact Nat.le_refl _⟩, ⟨nr_ HO677.out⟩, ⟨by (with_reducible repeat (first | apply Kd.R_alloc | apply Kd.R_drewN | apply Kd.R_drew)); exact Kd.R_mono HO682.out (fun _ hk => trivial)⟩, ⟨nr_ HO674.out⟩, ⟨nb_ BK679.out⟩, ⟨ne_ HB.out⟩⟩
   replace c14 := Bool.eq_false_iff.mpr c14
   subst c14
   have H1 : (laws_FnTurnLoad.j0 k t675 t678 t680 true t671 t672) = some r := by rw [if_neg (show ¬ (false = true) by decide)] at H; exact H
   clear H
   have H := H1
   clear H1
   have H' := Aside0.mk H
   clear H
   obtain ⟨hcz19_0, hcz19_1, hfz19_0, hfz19_1⟩ := cz2_ BK679.out
   go_wp2_with (first | (go_at_call 32; (with_reducible refine (spec_TurnAll.calls k t671 _ _ t672 _ _ t675 t678 t683 _ ?side1 ?side2 ?side3 ?side4 A12.out).mono ?_); (case side1 => exact nc_ (rR7 HO674.out).2.2); (case side2 => exact (rR7 HO674.out).2.1); (case side3 => exact nc_ (rR7 HO677.out).2.2); (case side4 => exact (rR7 HO677.out).2.1); rintro e w20 ⟨v684, rfl, ho0, hb⟩; have HO685 := Aside0.mk (Kd.R_lower (Kd.R_new' ho0 (Kd.R_lt (nr_ HO682.out))) (below_size (ne_ HB.out))); replace HO674 := kR_ HO674 hb; replace HO677 := kR_ HO677 hb; replace HO682 := Aside0.mk (Kd.R_elder' (nr_ HO682.out) (Kd.R_base ho0) hb); replace BK679 := kb_ BK679 hb; replace HB := kB_ HB hb; (try clear hb); (try clear hb2); (try clear hk); (try clear hi); (try clear ho0); obtain ⟨Ao21, co21, eo21⟩ := Kd.R_slice HO682.out; subst eo21; obtain ⟨Ao22, co22, eo22⟩ := Kd.R_slice HO685.out; subst eo22) | (go_at_call 31; (with_reducible refine (laws_wkInts.calls k _ _ t680 _ _ t683 false _ ?side1 ?side2 ?side3 ?side4 A13.out).mono ?_); (case side1 => exact nc_ (rR7 HO682.out).2.2); (case side2 => exact (rR7 HO682.out).2.1); (case side3 => exact nc_ (rR7 HO685.out).2.2); (case side4 => exact (rR7 HO685.out).2.1); rintro e w' ⟨rfl, ⟨nd, rfl⟩⟩; (try first | exact ⟨rfl, _, World.drewN_drewN _ _ _⟩ | exact ⟨rfl, _, Eq.trans (World.drewN_drewN _ _ _) (congrArg (World.drewN _) (Nat.add_assoc _ _ _))⟩)))
   repeat (go_quiet (first | (go_at_call 32; (with_reducible refine (spec_TurnAll.calls k t671 _ _ t672 _ _ t675 t678 t683 _ ?side1 ?side2 ?side3 ?side4 A12.out).mono ?_); (case side1 => exact nc_ (rR7 HO674.out).2.2); (case side2 => exact (rR7 HO674.out).2.1); (case side3 => exact nc_ (rR7 HO677.out).2.2); (case side4 => exact (rR7 HO677.out).2.1); rintro e w20 ⟨v684, rfl, ho0, hb⟩; have HO685 := Aside0.mk (Kd.R_lower (Kd.R_new' ho0 (Kd.R_lt (nr_ HO682.out))) (below_size (ne_ HB.out))); replace HO674 := kR_ HO674 hb; replace HO677 := kR_ HO677 hb; replace HO682 := Aside0.mk (Kd.R_elder' (nr_ HO682.out) (Kd.R_base ho0) hb); replace BK679 := kb_ BK679 hb; replace HB := kB_ HB hb; (try clear hb); (try clear hb2); (try clear hk); (try clear hi); (try clear ho0); obtain ⟨Ao21, co21, eo21⟩ := Kd.R_slice HO682.out; subst eo21; obtain ⟨Ao22, co22, eo22⟩ := Kd.R_slice HO685.out; subst eo22) | (go_at_call 31; (with_reducible refine (laws_wkInts.calls k _ _ t680 _ _ t683 false _ ?side1 ?side2 ?side3 ?side4 A13.out).mono ?_); (case side1 => exact nc_ (rR7 HO682.out).2.2); (case side2 => exact (rR7 HO682.out).2.1); (case side3 => exact nc_ (rR7 HO685.out).2.2); (case side4 => exact (rR7 HO685.out).2.1); rintro e w' ⟨rfl, ⟨nd, rfl⟩⟩; (try first | exact ⟨rfl, _, World.drewN_drewN _ _ _⟩ | exact ⟨rfl, _, Eq.trans (World.drewN_drewN _ _ _) (congrArg (World.drewN _) (Nat.add_assoc _ _ _))⟩))); try go_wp2_with (first | (go_at_call 32; (with_reducible refine (spec_TurnAll.calls k t671 _ _ t672 _ _ t675 t678 t683 _ ?side1 ?side2 ?side3 ?side4 A12.out).mono ?_); (case side1 => exact nc_ (rR7 HO674.out).2.2); (case side2 => exact (rR7 HO674.out).2.1); (case side3 => exact nc_ (rR7 HO677.out).2.2); (case side4 => exact (rR7 HO677.out).2.1); rintro e w20 ⟨v684, rfl, ho0, hb⟩; have HO685 := Aside0.mk (Kd.R_lower (Kd.R_new' ho0 (Kd.R_lt (nr_ HO682.out))) (below_size (ne_ HB.out))); replace HO674 := kR_ HO674 hb; replace HO677 := kR_ HO677 hb; replace HO682 := Aside0.mk (Kd.R_elder' (nr_ HO682.out) (Kd.R_base ho0) hb); replace BK679 := kb_ BK679 hb; replace HB := kB_ HB hb; (try clear hb); (try clear hb2); (try clear hk); (try clear hi); (try clear ho0); obtain ⟨Ao21, co21, eo21⟩ := Kd.R_slice HO682.out; subst eo21; obtain ⟨Ao22, co22, eo22⟩ := Kd.R_slice HO685.out; subst eo22) | (go_at_call 31; (with_reducible refine (laws_wkInts.calls k _ _ t680 _ _ t683 false _ ?side1 ?side2 ?side3 ?side4 A13.out).mono ?_); (case side1 => exact nc_ (rR7 HO682.out).2.2); (case side2 => exact (rR7 HO682.out).2.1); (case side3 => exact nc_ (rR7 HO685.out).2.2); (case side4 => exact (rR7 HO685.out).2.1); rintro e w' ⟨rfl, ⟨nd, rfl⟩⟩; (try first | exact ⟨rfl, _, World.drewN_drewN _ _ _⟩ | exact ⟨rfl, _, Eq.trans (World.drewN_drewN _ _ _) (congrArg (World.drewN _) (Nat.add_assoc _ _ _))⟩))))
   go_meet
   case rel => exact ⟨_, (true), ns_, H', ⟨by first | omega | exact Nat.le_refl _⟩, ⟨nr_ HO677.out⟩, ⟨by (with_reducible repeat (first | apply Kd.R_alloc | apply Kd.R_drewN | apply Kd.R_drew)); exact Kd.R_mono HO682.out (fun _ hk => trivial)⟩, ⟨nr_ HO674.out⟩, ⟨nb_ BK679.out⟩, ⟨ne_ HB.out⟩⟩
  case rest =>
   clear HC5
   try clear c2
   try clear c2b0
   try clear c2b1
   try clear hcz8_0
   try clear hcz8_1
   try clear hfz8_0
   try clear hfz8_1
   obtain ⟨kq, x35_4, rfl, HA, HJ4, HO_4, HO_6, HO_680001, BK679, HB⟩ := hcut
   cases kq with
   | zero => exact absurd HA.out (by simp [laws_FnTurnLoad.j0])
   | succ kj4 =>
    have H := HA.out
    clear HA
    simp only [laws_FnTurnLoad.j0] at H
    by_cases c23 : x35_4 = true
    ·subst c23
     rw [if_pos rfl] at H
     replace H := Option.bind_eq_some_iff.mp H
     obtain ⟨t687, A240, H⟩ := H
     replace H : ((laws_wkInts.f kj4 t680 t687).bind fun t690 => (some t690)) = some r := H
     have A24 := Aside0.mk A240
     clear A240
     replace H := Option.bind_eq_some_iff.mp H
     obtain ⟨t690, A250, H⟩ := H
     replace H : (some t690) = some r := H
     have A25 := Aside0.mk A250
     clear A250
     obtain rfl := Option.some.inj H
     obtain ⟨hcz26_0, hcz26_1, hfz26_0, hfz26_1⟩ := cz2_ BK679.out
     go_wp2_with (first | (go_at_call 32; (with_reducible refine (spec_TurnAll.calls kj4 t671 _ _ t672 _ _ t675 t678 t687 _ ?side1 ?side2 ?side3 ?side4 A24.out).mono ?_); (case side1 => exact nc_ (rR7 HO_680001.out).2.2); (case side2 => exact (rR7 HO_680001.out).2.1); (case side3 => exact nc_ (rR7 HO_4.out).2.2); (case side4 => exact (rR7 HO_4.out).2.1); rintro e w27 ⟨v688, rfl, ho0, hb⟩; have HO689 := Aside0.mk (Kd.R_lower (Kd.R_new' ho0 (Kd.R_lt (nr_ HO_6.out))) (below_size (ne_ HB.out))); replace HO_4 := kR_ HO_4 hb; replace HO_6 := Aside0.mk (Kd.R_elder' (nr_ HO_6.out) (Kd.R_base ho0) hb); replace HO_680001 := kR_ HO_680001 hb; replace BK679 := kb_ BK679 hb; replace HB := kB_ HB hb; (try clear hb); (try clear hb2); (try clear hk); (try clear hi); (try clear ho0); obtain ⟨Ao28, co28, eo28⟩ := Kd.R_slice HO_6.out; subst eo28; obtain ⟨Ao29, co29, eo29⟩ := Kd.R_slice HO689.out; subst eo29) | (go_at_call 31; (with_reducible refine (laws_wkInts.calls kj4 _ _ t680 _ _ t687 t690 _ ?side1 ?side2 ?side3 ?side4 A25.out).mono ?_); (case side1 => exact nc_ (rR7 HO_6.out).2.2); (case side2 => exact (rR7 HO_6.out).2.1); (case side3 => exact nc_ (rR7 HO689.out).2.2); (case side4 => exact (rR7 HO689.out).2.1); rintro e w' ⟨rfl, ⟨nd, rfl⟩⟩; (try first | exact ⟨rfl, _, World.drewN_drewN _ _ _⟩ | exact ⟨rfl, _, Eq.trans (World.drewN_drewN _ _ _) (congrArg (World.drewN _) (Nat.add_assoc _ _ _))⟩)))
     repeat (go_quiet (first | (go_at_call 32; (with_reducible refine (spec_TurnAll.calls kj4 t671 _ _ t672 _ _ t675 t678 t687 _ ?side1 ?side2 ?side3 ?side4 A24.out).mono ?_); (case side1 => exact nc_ (rR7 HO_680001.out).2.2); (case side2 => exact (rR7 HO_680001.out).2.1); (case side3 => exact nc_ (rR7 HO_4.out).2.2); (case side4 => exact (rR7 HO_4.out).2.1); rintro e w27 ⟨v688, rfl, ho0, hb⟩; have HO689 := Aside0.mk (Kd.R_lower (Kd.R_new' ho0 (Kd.R_lt (nr_ HO_6.out))) (below_size (ne_ HB.out))); replace HO_4 := kR_ HO_4 hb; replace HO_6 := Aside0.mk (Kd.R_elder' (nr_ HO_6.out) (Kd.R_base ho0) hb); replace HO_680001 := kR_ HO_680001 hb; replace BK679 := kb_ BK679 hb; replace HB := kB_ HB hb; (try clear hb); (try clear hb2); (try clear hk); (try clear hi); (try clear ho0); obtain ⟨Ao28, co28, eo28⟩ := Kd.R_slice HO_6.out; subst eo28; obtain ⟨Ao29, co29, eo29⟩ := Kd.R_slice HO689.out; subst eo29) | (go_at_call 31; (with_reducible refine (laws_wkInts.calls kj4 _ _ t680 _ _ t687 t690 _ ?side1 ?side2 ?side3 ?side4 A25.out).mono ?_); (case side1 => exact nc_ (rR7 HO_6.out).2.2); (case side2 => exact (rR7 HO_6.out).2.1); (case side3 => exact nc_ (rR7 HO689.out).2.2); (case side4 => exact (rR7 HO689.out).2.1); rintro e w' ⟨rfl, ⟨nd, rfl⟩⟩; (try first | exact ⟨rfl, _, World.drewN_drewN _ _ _⟩ | exact ⟨rfl, _, Eq.trans (World.drewN_drewN _ _ _) (congrArg (World.drewN _) (Nat.add_assoc _ _ _))⟩))); try go_wp2_with (first | (go_at_call 32; (with_reducible refine (spec_TurnAll.calls kj4 t671 _ _ t672 _ _ t675 t678 t687 _ ?side1 ?side2 ?side3 ?side4 A24.out).mono ?_); (case side1 => exact nc_ (rR7 HO_680001.out).2.2); (case side2 => exact (rR7 HO_680001.out).2.1); (case side3 => exact nc_ (rR7 HO_4.out).2.2); (case side4 => exact (rR7 HO_4.out).2.1); rintro e w27 ⟨v688, rfl, ho0, hb⟩; have HO689 := Aside0.mk (Kd.R_lower (Kd.R_new' ho0 (Kd.R_lt (nr_ HO_6.out))) (below_size (ne_ HB.out))); replace HO_4 := kR_ HO_4 hb; replace HO_6 := Aside0.mk (Kd.R_elder' (nr_ HO_6.out) (Kd.R_base ho0) hb); replace HO_680001 := kR_ HO_680001 hb; replace BK679 := kb_ BK679 hb; replace HB := kB_ HB hb; (try clear hb); (try clear hb2); (try clear hk); (try clear hi); (try clear ho0); obtain ⟨Ao28, co28, eo28⟩ := Kd.R_slice HO_6.out; subst eo28; obtain ⟨Ao29, co29, eo29⟩ := Kd.R_slice HO689.out; subst eo29) | (go_at_call 31; (with_reducible refine (laws_wkInts.calls kj4 _ _ t680 _ _ t687 t690 _ ?side1 ?side2 ?side3 ?side4 A25.out).mono ?_); (case side1 => exact nc_ (rR7 HO_6.out).2.2); (case side2 => exact (rR7 HO_6.out).2.1); (case side3 => exact nc_ (rR7 HO689.out).2.2); (case side4 => exact (rR7 HO689.out).2.1); rintro e w' ⟨rfl, ⟨nd, rfl⟩⟩; (try first | exact ⟨rfl, _, World.drewN_drewN _ _ _⟩ | exact ⟨rfl, _, Eq.trans (World.drewN_drewN _ _ _) (congrArg (World.drewN _) (Nat.add_assoc _ _ _))⟩))))
     go_ret
     exact ⟨nw_, ne_ HB.out⟩
    replace c23 := Bool.eq_false_iff.mpr c23
    subst c23
    have H1 : (laws_FnTurnLoad.l0 kj4 t675 t678 t680 (([] : List (S31))) 0 t671 t672) = some r := by rw [if_neg (show ¬ (false = true) by decide)] at H; exact H
    clear H
    have H := H1
    clear H1
    obtain ⟨y691, hy691⟩ : ∃ y_ : List (S31), y_ = (([] : List (S31))) := ⟨_, rfl⟩
    replace H : (laws_FnTurnLoad.l0 kj4 t675 t678 t680 y691 0 t671 t672) = some r := by first | (rw [hy691]; with_reducible exact H) | (have H2_ := (Option.bind_some _ _).symm.trans H; rw [hy691]; with_reducible exact H2_) | (have H2_ := (Option.bind_some _ _).symm.trans H; with_reducible exact H2_) | with_reducible exact H | (rw [hy691]; exact H) | exact H
    have Ny691 := Aside0.mk hy691
    clear hy691
    have H' := Aside0.mk H
    clear H
    go_wp2_with (first | ((with_reducible refine gate_dst (N := 42) rfl ?_); (try (refine gate_guard (by rfl) ?_; dsimp only)); refine Kd.R_lit k31 _ 31 ?hg (N := 42) ?hd (xs := ([] : List (S31))) (inner := []) (ok := fun _ => True) (okp := fun _ => True) ?hr ?hp (fun _ hk => hk) trivial (Below.refl _ _) (Nat.le_refl _) (by simp) ?_; (case hd => rfl); (case hg => rfl); (case hr => first | (go_simp; done) | (go_simp; rfl)); (case hp => exact (Reps.none _ _)); intro v692 w30 ho31 hb hg_ hnew_; clear hg_ hnew_; (first | rw [← Ny691.out] at ho31 | (simp only [Int.reduceToNat] at ho31; rw [← Ny691.out] at ho31)); have HO693 := Aside0.mk (Kd.R_lower (Kd.R_new' ho31 (Kd.R_lt (nr_ HO_4.out))) (below_size (ne_ HB.out))); replace HO_4 := Aside0.mk (Kd.R_elder' (nr_ HO_4.out) (Kd.R_base ho31) hb); replace HO_6 := kR_ HO_6 hb; replace HO_680001 := kR_ HO_680001 hb; replace BK679 := kb_ BK679 hb; replace HB := kB_ HB hb; clear hb ho31))
    repeat (go_quiet (first | ((with_reducible refine gate_dst (N := 42) rfl ?_); (try (refine gate_guard (by rfl) ?_; dsimp only)); refine Kd.R_lit k31 _ 31 ?hg (N := 42) ?hd (xs := ([] : List (S31))) (inner := []) (ok := fun _ => True) (okp := fun _ => True) ?hr ?hp (fun _ hk => hk) trivial (Below.refl _ _) (Nat.le_refl _) (by simp) ?_; (case hd => rfl); (case hg => rfl); (case hr => first | (go_simp; done) | (go_simp; rfl)); (case hp => exact (Reps.none _ _)); intro v692 w30 ho31 hb hg_ hnew_; clear hg_ hnew_; (first | rw [← Ny691.out] at ho31 | (simp only [Int.reduceToNat] at ho31; rw [← Ny691.out] at ho31)); have HO693 := Aside0.mk (Kd.R_lower (Kd.R_new' ho31 (Kd.R_lt (nr_ HO_4.out))) (below_size (ne_ HB.out))); replace HO_4 := Aside0.mk (Kd.R_elder' (nr_ HO_4.out) (Kd.R_base ho31) hb); replace HO_6 := kR_ HO_6 hb; replace HO_680001 := kR_ HO_680001 hb; replace BK679 := kb_ BK679 hb; replace HB := kB_ HB hb; clear hb ho31)); try go_wp2_with (first | ((with_reducible refine gate_dst (N := 42) rfl ?_); (try (refine gate_guard (by rfl) ?_; dsimp only)); refine Kd.R_lit k31 _ 31 ?hg (N := 42) ?hd (xs := ([] : List (S31))) (inner := []) (ok := fun _ => True) (okp := fun _ => True) ?hr ?hp (fun _ hk => hk) trivial (Below.refl _ _) (Nat.le_refl _) (by simp) ?_; (case hd => rfl); (case hg => rfl); (case hr => first | (go_simp; done) | (go_simp; rfl)); (case hp => exact (Reps.none _ _)); intro v692 w30 ho31 hb hg_ hnew_; clear hg_ hnew_; (first | rw [← Ny691.out] at ho31 | (simp only [Int.reduceToNat] at ho31; rw [← Ny691.out] at ho31)); have HO693 := Aside0.mk (Kd.R_lower (Kd.R_new' ho31 (Kd.R_lt (nr_ HO_4.out))) (below_size (ne_ HB.out))); replace HO_4 := Aside0.mk (Kd.R_elder' (nr_ HO_4.out) (Kd.R_base ho31) hb); replace HO_6 := kR_ HO_6 hb; replace HO_680001 := kR_ HO_680001 hb; replace BK679 := kb_ BK679 hb; replace HB := kB_ HB hb; clear hb ho31)))
    go_loopg [7, 8] kj4 (fun kq v7 v8 w' => ∃ (x7_2 : List (S31)) (x8_2 : Int), v8 = .int .i64 x8_2 ∧ Aside0 (laws_FnTurnLoad.l0 kq t675 t678 t680 x7_2 x8_2 t671 t672 = some r) ∧ Aside0 (kq ≤ kj4) ∧ Aside0 (Kd.R k31 31 w' w.heap.size (fun k_ => some k_ ≠ (v7 : Value).ownBlock) (.slice Ao10 t675.length co10) t675) ∧ Aside0 (Kd.R (Kd.int .i64) 3 w' w.heap.size (fun _ => True) v681 t680) ∧ Aside0 (Kd.R k31 31 w' w.heap.size (fun k_ => some k_ ≠ ((.slice Ao10 t675.length co10) : Value).ownBlock) v7 x7_2) ∧ Aside0 (Kd.R k33 33 w' w.heap.size (fun _ => True) (.slice Ao9 t672.length co9) t672) ∧ Aside0 (w'.heap[gb679]? = some (.cells #[.int .i64 t671, (.slice Ao9 t672.length co9)] 25 (0, 0))) ∧ Aside0 (Below w.heap.size w w'))
    case atStart => exact ⟨(y691), (0), ns_, H', ⟨Nat.le_refl _⟩, ⟨by (with_reducible repeat (first | apply Kd.R_alloc | apply Kd.R_drewN | apply Kd.R_drew)); exact Kd.R_mono HO_4.out (fun _ hk => by first | exact hk.2 | trivial | simp_all)⟩, ⟨nr_ HO_6.out⟩, ⟨by (with_reducible repeat (first | apply Kd.R_alloc | apply Kd.R_drewN | apply Kd.R_drew)); exact Kd.R_mono HO693.out (fun _ hk => by first | exact hk.2 | trivial | simp_all)⟩, ⟨nr_ HO_680001.out⟩, ⟨nb_ BK679.out⟩, ⟨ne_ HB.out⟩⟩
    case round =>
     clear H'
     try clear c2
     try clear c2b0
     try clear c2b1
     try clear c23
     try clear hcz8_0
     try clear hcz8_1
     try clear hfz8_0
     try clear hfz8_1
     obtain ⟨x7_2, x8_2, rfl, HA, HK2, HO_4, HO_6, HO_7, HO_680001, BK679, HB⟩ := hrel
     cases gk with
     | zero => exact absurd HA.out (by simp [laws_FnTurnLoad.l0])
     | succ k2 =>
      have H := HA.out
      clear HA
      simp only [laws_FnTurnLoad.l0] at H
      by_cases c32 : x8_2 < (t675.length : Int)
      ·rw [if_pos c32] at H
       have c32b0 : decide (x8_2 < (t675.length : Int)) = true := decide_eq_true c32
       clear c32
       by_cases c33 : 0 ≤ x8_2
       rotate_left
       ·rw [if_neg c33] at H
        exact absurd H (by simp)
       rw [if_pos c33] at H
       have c33b0 : decide (0 ≤ x8_2) = true := decide_eq_true c33
       clear c33
       by_cases c34 : ((rd_T31 t675 x8_2).f2) < 0
       rotate_left
       ·rw [if_neg c34] at H
        have c34b0 : decide (((rd_T31 t675 x8_2).f2) < 0) = false := decide_eq_false c34
        clear c34
        have H' := Aside0.mk H
        clear H
        have p694 : 0 ≤ (x8_2 : Int) := of_decide_eq_true nx_
        have q694 : x8_2 < (t675.length : Int) := of_decide_eq_true nx_
        obtain ⟨ad694, e694, hx694_0, hx694_1, hx694_2⟩ := at_T31 (rR7 HO_4.out).2.2 x8_2 p694 q694
        cases e694
        replace p694 := eq_true p694
        replace q694 := eq_true q694
        go_wp2
        repeat (go_quiet (fail); try go_wp2)
        go_roundg k2
        case measure => have := HJ4.out; have := HK2.out; omega
        case rel => exact ⟨(x7_2), (wrap64 (x8_2 + 1)), ns_, H', ⟨by have := HJ4.out; have := HK2.out; omega⟩, ⟨nr_ HO_4.out⟩, ⟨nr_ HO_6.out⟩, ⟨nr_ HO_7.out⟩, ⟨nr_ HO_680001.out⟩, ⟨nb_ BK679.out⟩, ⟨ne_ HB.out⟩⟩
       rw [if_pos c34] at H
       have c34b0 : decide (((rd_T31 t675 x8_2).f2) < 0) = true := decide_eq_true c34
       clear c34
       by_cases c35 : x7_2.length < 5864062014805
       rotate_left
       ·rw [if_neg c35] at H
        exact absurd H (by simp)
       rw [if_pos c35] at H
       have LMc35 := Aside0.mk c35
       clear c35
       obtain ⟨y696, hy696⟩ : ∃ y_ : List (S31), y_ = (x7_2 ++ [(⟨(rd_T31 t675 x8_2).f0, (rd_T31 t675 x8_2).f1, (rd_T31 t675 x8_2).f2⟩ : S31)]) := ⟨_, rfl⟩
       replace H : (laws_FnTurnLoad.l0 k2 t675 t678 t680 y696 (wrap64 (x8_2 + 1)) t671 t672) = some r := by first | (rw [hy696]; with_reducible exact H) | (have H2_ := (Option.bind_some _ _).symm.trans H; rw [hy696]; with_reducible exact H2_) | (have H2_ := (Option.bind_some _ _).symm.trans H; with_reducible exact H2_) | with_reducible exact H | (rw [hy696]; exact H) | exact H
       have Ny696 := Aside0.mk hy696
       clear hy696
       have H' := Aside0.mk H
       clear H
       have p694 : 0 ≤ (x8_2 : Int) := of_decide_eq_true nx_
       have q694 : x8_2 < (t675.length : Int) := of_decide_eq_true nx_
       obtain ⟨ad694, e694, hx694_0, hx694_1, hx694_2⟩ := at_T31 (rR7 HO_4.out).2.2 x8_2 p694 q694
       cases e694
       replace p694 := eq_true p694
       replace q694 := eq_true q694
       have p695 : 0 ≤ (x8_2 : Int) := of_decide_eq_true nx_
       have q695 : x8_2 < (t675.length : Int) := of_decide_eq_true nx_
       obtain ⟨ad695, e695, hx695_0, hx695_1, hx695_2⟩ := at_T31 (rR7 HO_4.out).2.2 x8_2 p695 q695
       obtain rfl : ad694 = ad695 := (by injection e695)
       replace p695 := eq_true p695
       replace q695 := eq_true q695
       go_wp2_with (first | ((with_reducible refine gate_builtin (b := .append) (xs := #[.tmp 55, .tmp 60]) rfl ?_); (try (refine gate_guard (by rfl) ?_; dsimp only)); at_builtin; refine Kd.R_append k31 (w0 := w) w.heap.size rfl (.tmp 55) (.tmp 60) 26 31 (.agg #[(.int .i64 0), (.int .i64 0), (.int .i64 0)]) 24 rfl Try.underlying26 info31 rfl (by decide) (by omega) u7 x7_2 (⟨(rd_T31 t675 x8_2).f0, (rd_T31 t675 x8_2).f1, (rd_T31 t675 x8_2).f2⟩ : S31) [.int .i64 ((rd_T31 t675 x8_2).f0), .int .i64 ((rd_T31 t675 x8_2).f1), .int .i64 ((rd_T31 t675 x8_2).f2)] (fun k_ => some k_ ≠ (.slice (some ad694) t675.length co10 : Value).ownBlock) (fun _ => False) rfl rfl ?aP (fun _ hk => hk.elim) ?aF ?aO ?aB ?aS ?aL ?_; (case aP => exact k31_mkM _ _ _ (⟨(rd_T31 t675 x8_2).f0, (rd_T31 t675 x8_2).f1, (rd_T31 t675 x8_2).f2⟩ : S31)); (case aB => exact (ne_ HB.out)); (case aF => exact (fun k_ hk => Kd.fresh' (Kd.R_lt (nr_ HO_4.out)) k_ hk)); (case aO => exact (nr_ HO_7.out)); (case aS => exact (below_size (ne_ HB.out))); (case aL => have := LMc35.out; omega); intro v697 w36 ho hb hg hat; rw [← Ny696.out] at ho; have HO698 := Aside0.mk (ho); replace HO_4 := Aside0.mk (Kd.R_after (ok := (fun _ => True)) (by (with_reducible repeat (first | apply Kd.R_alloc | apply Kd.R_drewN | apply Kd.R_drew)); exact Kd.R_mono HO_4.out (fun _ hk => by first | exact ⟨trivial, hk⟩ | trivial | simp_all)) hg hat); replace HO_6 := Aside0.mk (Kd.R_over' (nr_ HO_6.out) (Kd.R_typed (nr_ HO_7.out)) (by decide) hg); replace HO_680001 := Aside0.mk (Kd.R_over' (nr_ HO_680001.out) (Kd.R_typed (nr_ HO_7.out)) (by decide) hg); replace BK679 := Aside0.mk (blk_grown (g := gb679) (o := .cells #[.int .i64 t671, .slice Ao9 t672.length co9] 25 (0, 0)) (nb_ BK679.out) hg (Kd.R_ne HO_7.out BK679.out (by decide))); replace HB := Aside0.mk (hb); clear HO_7; clear ho hb hg hat))
       repeat (go_quiet (first | ((with_reducible refine gate_builtin (b := .append) (xs := #[.tmp 55, .tmp 60]) rfl ?_); (try (refine gate_guard (by rfl) ?_; dsimp only)); at_builtin; refine Kd.R_append k31 (w0 := w) w.heap.size rfl (.tmp 55) (.tmp 60) 26 31 (.agg #[(.int .i64 0), (.int .i64 0), (.int .i64 0)]) 24 rfl Try.underlying26 info31 rfl (by decide) (by omega) u7 x7_2 (⟨(rd_T31 t675 x8_2).f0, (rd_T31 t675 x8_2).f1, (rd_T31 t675 x8_2).f2⟩ : S31) [.int .i64 ((rd_T31 t675 x8_2).f0), .int .i64 ((rd_T31 t675 x8_2).f1), .int .i64 ((rd_T31 t675 x8_2).f2)] (fun k_ => some k_ ≠ (.slice (some ad694) t675.length co10 : Value).ownBlock) (fun _ => False) rfl rfl ?aP (fun _ hk => hk.elim) ?aF ?aO ?aB ?aS ?aL ?_; (case aP => exact k31_mkM _ _ _ (⟨(rd_T31 t675 x8_2).f0, (rd_T31 t675 x8_2).f1, (rd_T31 t675 x8_2).f2⟩ : S31)); (case aB => exact (ne_ HB.out)); (case aF => exact (fun k_ hk => Kd.fresh' (Kd.R_lt (nr_ HO_4.out)) k_ hk)); (case aO => exact (nr_ HO_7.out)); (case aS => exact (below_size (ne_ HB.out))); (case aL => have := LMc35.out; omega); intro v697 w36 ho hb hg hat; rw [← Ny696.out] at ho; have HO698 := Aside0.mk (ho); replace HO_4 := Aside0.mk (Kd.R_after (ok := (fun _ => True)) (by (with_reducible repeat (first | apply Kd.R_alloc | apply Kd.R_drewN | apply Kd.R_drew)); exact Kd.R_mono HO_4.out (fun _ hk => by first | exact ⟨trivial, hk⟩ | trivial | simp_all)) hg hat); replace HO_6 := Aside0.mk (Kd.R_over' (nr_ HO_6.out) (Kd.R_typed (nr_ HO_7.out)) (by decide) hg); replace HO_680001 := Aside0.mk (Kd.R_over' (nr_ HO_680001.out) (Kd.R_typed (nr_ HO_7.out)) (by decide) hg); replace BK679 := Aside0.mk (blk_grown (g := gb679) (o := .cells #[.int .i64 t671, .slice Ao9 t672.length co9] 25 (0, 0)) (nb_ BK679.out) hg (Kd.R_ne HO_7.out BK679.out (by decide))); replace HB := Aside0.mk (hb); clear HO_7; clear ho hb hg hat)); try go_wp2_with (first | ((with_reducible refine gate_builtin (b := .append) (xs := #[.tmp 55, .tmp 60]) rfl ?_); (try (refine gate_guard (by rfl) ?_; dsimp only)); at_builtin; refine Kd.R_append k31 (w0 := w) w.heap.size rfl (.tmp 55) (.tmp 60) 26 31 (.agg #[(.int .i64 0), (.int .i64 0), (.int .i64 0)]) 24 rfl Try.underlying26 info31 rfl (by decide) (by omega) u7 x7_2 (⟨(rd_T31 t675 x8_2).f0, (rd_T31 t675 x8_2).f1, (rd_T31 t675 x8_2).f2⟩ : S31) [.int .i64 ((rd_T31 t675 x8_2).f0), .int .i64 ((rd_T31 t675 x8_2).f1), .int .i64 ((rd_T31 t675 x8_2).f2)] (fun k_ => some k_ ≠ (.slice (some ad694) t675.length co10 : Value).ownBlock) (fun _ => False) rfl rfl ?aP (fun _ hk => hk.elim) ?aF ?aO ?aB ?aS ?aL ?_; (case aP => exact k31_mkM _ _ _ (⟨(rd_T31 t675 x8_2).f0, (rd_T31 t675 x8_2).f1, (rd_T31 t675 x8_2).f2⟩ : S31)); (case aB => exact (ne_ HB.out)); (case aF => exact (fun k_ hk => Kd.fresh' (Kd.R_lt (nr_ HO_4.out)) k_ hk)); (case aO => exact (nr_ HO_7.out)); (case aS => exact (below_size (ne_ HB.out))); (case aL => have := LMc35.out; omega); intro v697 w36 ho hb hg hat; rw [← Ny696.out] at ho; have HO698 := Aside0.mk (ho); replace HO_4 := Aside0.mk (Kd.R_after (ok := (fun _ => True)) (by (with_reducible repeat (first | apply Kd.R_alloc | apply Kd.R_drewN | apply Kd.R_drew)); exact Kd.R_mono HO_4.out (fun _ hk => by first | exact ⟨trivial, hk⟩ | trivial | simp_all)) hg hat); replace HO_6 := Aside0.mk (Kd.R_over' (nr_ HO_6.out) (Kd.R_typed (nr_ HO_7.out)) (by decide) hg); replace HO_680001 := Aside0.mk (Kd.R_over' (nr_ HO_680001.out) (Kd.R_typed (nr_ HO_7.out)) (by decide) hg); replace BK679 := Aside0.mk (blk_grown (g := gb679) (o := .cells #[.int .i64 t671, .slice Ao9 t672.length co9] 25 (0, 0)) (nb_ BK679.out) hg (Kd.R_ne HO_7.out BK679.out (by decide))); replace HB := Aside0.mk (hb); clear HO_7; clear ho hb hg hat)))
       go_roundg k2
       case measure => have := HJ4.out; have := HK2.out; omega
       case rel => exact ⟨(y696), (wrap64 (x8_2 + 1)), ns_, H', ⟨by have := HJ4.out; have := HK2.out; omega⟩, ⟨by (with_reducible repeat (first | apply Kd.R_alloc | apply Kd.R_drewN | apply Kd.R_drew)); exact Kd.R_mono HO_4.out (fun _ hk => by first | exact hk.2 | trivial | simp_all)⟩, ⟨nr_ HO_6.out⟩, ⟨nr_ HO698.out⟩, ⟨nr_ HO_680001.out⟩, ⟨nb_ BK679.out⟩, ⟨ne_ HB.out⟩⟩
      rw [if_neg c32] at H
      have c32b0 : decide (x8_2 < (t675.length : Int)) = false := decide_eq_false c32
      clear c32
      replace H := Option.bind_eq_some_iff.mp H
      obtain ⟨t699, A370, H⟩ := H
      replace H : (laws_FnTurnLoad.l1 k2 t680 t699 0 t671 t672) = some r := H
      have A37 := Aside0.mk A370
      clear A370
      have H' := Aside0.mk H
      clear H
      obtain ⟨hcz38_0, hcz38_1, hfz38_0, hfz38_1⟩ := cz2_ BK679.out
      obtain ⟨Ao39, co39, eo39⟩ := Kd.R_slice HO_7.out
      subst eo39
      go_wp2_with (first | (go_at_call 30; (with_reducible refine (impl_TurnAll.calls k2 t671 _ _ t672 _ _ x7_2 t678 t699 _ ?side1 ?side2 ?side3 ?side4 A37.out).mono ?_); (case side1 => exact nc_ (rR7 HO_680001.out).2.2); (case side2 => exact (rR7 HO_680001.out).2.1); (case side3 => exact nc_ (rR7 HO_7.out).2.2); (case side4 => exact (rR7 HO_7.out).2.1); rintro e w40 ⟨v700, rfl, ho0, hb⟩; have HO701 := Aside0.mk (Kd.R_lower (Kd.R_new' ho0 (Kd.R_lt (nr_ HO_6.out))) (below_size (ne_ HB.out))); replace HO_4 := kR_ HO_4 hb; replace HO_6 := Aside0.mk (Kd.R_elder' (nr_ HO_6.out) (Kd.R_base ho0) hb); replace HO_7 := kR_ HO_7 hb; replace HO_680001 := kR_ HO_680001 hb; replace BK679 := kb_ BK679 hb; replace HB := kB_ HB hb; (try clear hb); (try clear hb2); (try clear hk); (try clear hi); (try clear ho0)))
      repeat (go_quiet (first | (go_at_call 30; (with_reducible refine (impl_TurnAll.calls k2 t671 _ _ t672 _ _ x7_2 t678 t699 _ ?side1 ?side2 ?side3 ?side4 A37.out).mono ?_); (case side1 => exact nc_ (rR7 HO_680001.out).2.2); (case side2 => exact (rR7 HO_680001.out).2.1); (case side3 => exact nc_ (rR7 HO_7.out).2.2); (case side4 => exact (rR7 HO_7.out).2.1); rintro e w40 ⟨v700, rfl, ho0, hb⟩; have HO701 := Aside0.mk (Kd.R_lower (Kd.R_new' ho0 (Kd.R_lt (nr_ HO_6.out))) (below_size (ne_ HB.out))); replace HO_4 := kR_ HO_4 hb; replace HO_6 := Aside0.mk (Kd.R_elder' (nr_ HO_6.out) (Kd.R_base ho0) hb); replace HO_7 := kR_ HO_7 hb; replace HO_680001 := kR_ HO_680001 hb; replace BK679 := kb_ BK679 hb; replace HB := kB_ HB hb; (try clear hb); (try clear hb2); (try clear hk); (try clear hi); (try clear ho0))); try go_wp2_with (first | (go_at_call 30; (with_reducible refine (impl_TurnAll.calls k2 t671 _ _ t672 _ _ x7_2 t678 t699 _ ?side1 ?side2 ?side3 ?side4 A37.out).mono ?_); (case side1 => exact nc_ (rR7 HO_680001.out).2.2); (case side2 => exact (rR7 HO_680001.out).2.1); (case side3 => exact nc_ (rR7 HO_7.out).2.2); (case side4 => exact (rR7 HO_7.out).2.1); rintro e w40 ⟨v700, rfl, ho0, hb⟩; have HO701 := Aside0.mk (Kd.R_lower (Kd.R_new' ho0 (Kd.R_lt (nr_ HO_6.out))) (below_size (ne_ HB.out))); replace HO_4 := kR_ HO_4 hb; replace HO_6 := Aside0.mk (Kd.R_elder' (nr_ HO_6.out) (Kd.R_base ho0) hb); replace HO_7 := kR_ HO_7 hb; replace HO_680001 := kR_ HO_680001 hb; replace BK679 := kb_ BK679 hb; replace HB := kB_ HB hb; (try clear hb); (try clear hb2); (try clear hk); (try clear hi); (try clear ho0))))
      go_loopg [10] k2 (fun kq v10 w' => ∃ (x10_3 : Int), v10 = .int .i64 x10_3 ∧ Aside0 (laws_FnTurnLoad.l1 kq t680 t699 x10_3 t671 t672 = some r) ∧ Aside0 (kq ≤ k2) ∧ Aside0 (Kd.R (Kd.int .i64) 3 w' w.heap.size (fun k_ => some k_ ≠ (v700 : Value).ownBlock) v681 t680) ∧ Aside0 (Kd.R (Kd.int .i64) 3 w' w.heap.size (fun k_ => some k_ ≠ (v681 : Value).ownBlock) v700 t699) ∧ Aside0 (Kd.R k33 33 w' w.heap.size (fun _ => True) (.slice Ao9 t672.length co9) t672) ∧ Aside0 (w'.heap[gb679]? = some (.cells #[.int .i64 t671, (.slice Ao9 t672.length co9)] 25 (0, 0))) ∧ Aside0 (Below w.heap.size w w'))
      case atStart => exact ⟨(0), ns_, H', ⟨Nat.le_refl _⟩, ⟨by (with_reducible repeat (first | apply Kd.R_alloc | apply Kd.R_drewN | apply Kd.R_drew)); exact Kd.R_mono HO_6.out (fun _ hk => by first | exact hk.2 | trivial | simp_all)⟩, ⟨by (with_reducible repeat (first | apply Kd.R_alloc | apply Kd.R_drewN | apply Kd.R_drew)); exact Kd.R_mono HO701.out (fun _ hk => by first | exact hk.2 | trivial | simp_all)⟩, ⟨nr_ HO_680001.out⟩, ⟨nb_ BK679.out⟩, ⟨ne_ HB.out⟩⟩
      case round =>
       clear H'
       try clear c2
       try clear c2b0
       try clear c2b1
       try clear c23
       try clear c32
       try clear c32b0
       try clear hcz38_0
       try clear hcz38_1
       try clear hcz8_0
       try clear hcz8_1
       try clear hfz38_0
       try clear hfz38_1
       try clear hfz8_0
       try clear hfz8_1
       obtain ⟨x10_3, rfl, HA, HK3, HO_6, HO_9, HO_680001, BK679, HB⟩ := hrel
       cases gk with
       | zero => exact absurd HA.out (by simp [laws_FnTurnLoad.l1])
       | succ k3 =>
        have H := HA.out
        clear HA
        simp only [laws_FnTurnLoad.l1] at H
        by_cases c41 : x10_3 < t671
        rotate_left
        ·rw [if_neg c41] at H
         have c41b0 : decide (x10_3 < t671) = false := decide_eq_false c41
         clear c41
         obtain rfl := Option.some.inj H
         obtain ⟨hcz56_0, hcz56_1, hfz56_0, hfz56_1⟩ := cz2_ BK679.out
         obtain ⟨Ao57, co57, eo57⟩ := Kd.R_slice HO_9.out
         subst eo57
         go_wp2
         repeat (go_quiet (fail); try go_wp2)
         go_ret
         exact ⟨nw_, ne_ HB.out⟩

        rw [if_pos c41] at H
        have c41b0 : decide (x10_3 < t671) = true := decide_eq_true c41
        clear c41
        by_cases c42 : 0 ≤ x10_3
        rotate_left
        ·rw [if_neg c42] at H
         exact absurd H (by simp)
        rw [if_pos c42] at H
        have c42b0 : decide (0 ≤ x10_3) = true := decide_eq_true c42
        clear c42
        by_cases c43 : x10_3 < (t699.length : Int)
        rotate_left
        ·rw [if_neg c43] at H
         exact absurd H (by simp)
        rw [if_pos c43] at H
        have c43b0 : decide (x10_3 < (t699.length : Int)) = true := decide_eq_true c43
        clear c43
        by_cases c44 : x10_3 < (t680.length : Int)
        rotate_left
        ·rw [if_neg c44] at H
         exact absurd H (by simp)
        rw [if_pos c44] at H
        have c44b0 : decide (x10_3 < (t680.length : Int)) = true := decide_eq_true c44
        clear c44
        by_cases c45 : (rd t699 x10_3) > (rd t680 x10_3)
        ·rw [if_pos c45] at H
         have c45b0 : decide ((rd t680 x10_3) < (rd t699 x10_3)) = true := decide_eq_true c45
         clear c45
         obtain rfl := Option.some.inj H
         obtain ⟨hcz46_0, hcz46_1, hfz46_0, hfz46_1⟩ := cz2_ BK679.out
         obtain ⟨Ao47, co47, eo47⟩ := Kd.R_slice HO_9.out
         subst eo47
         have p702 : 0 ≤ (x10_3 : Int) := of_decide_eq_true nx_
         have q702 : x10_3 < (t699.length : Int) := of_decide_eq_true nx_
         obtain ⟨ad702, e702, hx702_0⟩ := Kd.at_int (rR7 HO_9.out).2.2 x10_3 p702 q702
         cases e702
         replace p702 := eq_true p702
         replace q702 := eq_true q702
         obtain ⟨Ao48, co48, eo48⟩ := Kd.R_slice HO_6.out
         subst eo48
         have p703 : 0 ≤ (x10_3 : Int) := of_decide_eq_true nx_
         have q703 : x10_3 < (t680.length : Int) := of_decide_eq_true nx_
         obtain ⟨ad703, e703, hx703_0⟩ := Kd.at_int (rR7 HO_6.out).2.2 x10_3 p703 q703
         cases e703
         replace p703 := eq_true p703
         replace q703 := eq_true q703
         go_wp2
         repeat (go_quiet (fail); try go_wp2)
         go_ret
         exact ⟨nw_, ne_ HB.out⟩
        rw [if_neg c45] at H
        have c45b0 : decide ((rd t680 x10_3) < (rd t699 x10_3)) = false := decide_eq_false c45
        clear c45
        by_cases c49 : ((decide ((rd t699 x10_3) < 99999)) != (decide ((rd t680 x10_3) < 99999))) = true
        ·rw [if_pos c49] at H
         have c49b0 : ((decide ((rd t699 x10_3) < 99999)) != (decide ((rd t680 x10_3) < 99999))) = true := c49
         (try (have c49b1 : decide ((decide ((rd t699 x10_3) < 99999)) = (decide ((rd t680 x10_3) < 99999))) = false := by simpa using c49))
         (try (have c49b2 : ((decide ((rd t699 x10_3) < 99999)) == (decide ((rd t680 x10_3) < 99999))) = false := by simpa using c49))
         (try (have c49b3 : ¬ ((decide ((rd t699 x10_3) < 99999)) = (decide ((rd t680 x10_3) < 99999))) := by simpa using c49))
         clear c49
         obtain rfl := Option.some.inj H
         obtain ⟨hcz50_0, hcz50_1, hfz50_0, hfz50_1⟩ := cz2_ BK679.out
         obtain ⟨Ao51, co51, eo51⟩ := Kd.R_slice HO_9.out
         subst eo51
         have p702 : 0 ≤ (x10_3 : Int) := of_decide_eq_true nx_
         have q702 : x10_3 < (t699.length : Int) := of_decide_eq_true nx_
         obtain ⟨ad702, e702, hx702_0⟩ := Kd.at_int (rR7 HO_9.out).2.2 x10_3 p702 q702
         cases e702
         replace p702 := eq_true p702
         replace q702 := eq_true q702
         obtain ⟨Ao52, co52, eo52⟩ := Kd.R_slice HO_6.out
         subst eo52
         have p703 : 0 ≤ (x10_3 : Int) := of_decide_eq_true nx_
         have q703 : x10_3 < (t680.length : Int) := of_decide_eq_true nx_
         obtain ⟨ad703, e703, hx703_0⟩ := Kd.at_int (rR7 HO_6.out).2.2 x10_3 p703 q703
         cases e703
         replace p703 := eq_true p703
         replace q703 := eq_true q703
         have p704 : 0 ≤ (x10_3 : Int) := of_decide_eq_true nx_
         have q704 : x10_3 < (t699.length : Int) := of_decide_eq_true nx_
         obtain ⟨ad704, e704, hx704_0⟩ := Kd.at_int (rR7 HO_9.out).2.2 x10_3 p704 q704
         obtain rfl : ad702 = ad704 := (by injection e704)
         replace p704 := eq_true p704
         replace q704 := eq_true q704
         have p705 : 0 ≤ (x10_3 : Int) := of_decide_eq_true nx_
         have q705 : x10_3 < (t680.length : Int) := of_decide_eq_true nx_
         obtain ⟨ad705, e705, hx705_0⟩ := Kd.at_int (rR7 HO_6.out).2.2 x10_3 p705 q705
         obtain rfl : ad703 = ad705 := (by injection e705)
         replace p705 := eq_true p705
         replace q705 := eq_true q705
         go_wp2
         repeat (go_quiet (fail); try go_wp2)
         go_ret
         exact ⟨nw_, ne_ HB.out⟩
        rw [if_neg c49] at H
        have c49b0 : ((decide ((rd t699 x10_3) < 99999)) != (decide ((rd t680 x10_3) < 99999))) = false := by simpa using c49
        (try (have c49b1 : decide ((decide ((rd t699 x10_3) < 99999)) = (decide ((rd t680 x10_3) < 99999))) = true := by simpa using c49))
        (try (have c49b2 : ((decide ((rd t699 x10_3) < 99999)) == (decide ((rd t680 x10_3) < 99999))) = true := by simpa using c49))
        clear c49
        have H' := Aside0.mk H
        clear H
        obtain ⟨hcz53_0, hcz53_1, hfz53_0, hfz53_1⟩ := cz2_ BK679.out
        obtain ⟨Ao54, co54, eo54⟩ := Kd.R_slice HO_9.out
        subst eo54
        have p702 : 0 ≤ (x10_3 : Int) := of_decide_eq_true nx_
        have q702 : x10_3 < (t699.length : Int) := of_decide_eq_true nx_
        obtain ⟨ad702, e702, hx702_0⟩ := Kd.at_int (rR7 HO_9.out).2.2 x10_3 p702 q702
        cases e702
        replace p702 := eq_true p702
        replace q702 := eq_true q702
        obtain ⟨Ao55, co55, eo55⟩ := Kd.R_slice HO_6.out
        subst eo55
        have p703 : 0 ≤ (x10_3 : Int) := of_decide_eq_true nx_
        have q703 : x10_3 < (t680.length : Int) := of_decide_eq_true nx_
        obtain ⟨ad703, e703, hx703_0⟩ := Kd.at_int (rR7 HO_6.out).2.2 x10_3 p703 q703
        cases e703
        replace p703 := eq_true p703
        replace q703 := eq_true q703
        have p704 : 0 ≤ (x10_3 : Int) := of_decide_eq_true nx_
        have q704 : x10_3 < (t699.length : Int) := of_decide_eq_true nx_
        obtain ⟨ad704, e704, hx704_0⟩ := Kd.at_int (rR7 HO_9.out).2.2 x10_3 p704 q704
        obtain rfl : ad702 = ad704 := (by injection e704)
        replace p704 := eq_true p704
        replace q704 := eq_true q704
        have p705 : 0 ≤ (x10_3 : Int) := of_decide_eq_true nx_
        have q705 : x10_3 < (t680.length : Int) := of_decide_eq_true nx_
        obtain ⟨ad705, e705, hx705_0⟩ := Kd.at_int (rR7 HO_6.out).2.2 x10_3 p705 q705
        obtain rfl : ad703 = ad705 := (by injection e705)
        replace p705 := eq_true p705
        replace q705 := eq_true q705
        go_wp2
        repeat (go_quiet (fail); try go_wp2)
        go_roundg k3
        case measure => have := HJ4.out; have := HK2.out; have := HK3.out; omega
        case rel => exact ⟨(wrap64 (x10_3 + 1)), ns_, H', ⟨by have := HJ4.out; have := HK2.out; have := HK3.out; omega⟩, ⟨nr_ HO_6.out⟩, ⟨nr_ HO_9.out⟩, ⟨nr_ HO_680001.out⟩, ⟨nb_ BK679.out⟩, ⟨ne_ HB.out⟩⟩
/-- THE ONE PURE STATEMENT of laws_FnTurnLoad: yours. -/
def laws_FnTurnLoad.Pure : Prop := ∀ (l0 : List Int), l0.length ≤ maxLen → l0.length * 1 ≤ 140737488351232 → (∀ x ∈ l0, (Lit.int .u8 x).wf = true) → ∃ k, laws_FnTurnLoad.f k l0 = some true
theorem laws_FnTurnLoad.walk (P : laws_FnTurnLoad.Pure) (a0 : Option Addr) (len0 cap0 : Nat) (z0 : List Int) (w : World) (w0 : (a0 = none ∧ len0 = 0 ∧ cap0 = 0 ∧ z0 = []) ∨ ∃ x, a0 = some x ∧ len0 ≤ cap0 ∧ cap0 ≤ maxLen ∧ z0.length = cap0 ∧ (∀ i, i < z0.length → w.cell? (x.add i) = some (.int .u8 (z0.getD i 0))) ∧ ∀ n ∈ z0, (Lit.int .u8 n).wf = true) (y0 : len0 * 1 ≤ 140737488351232) :
    Calls Try.prog 7 #[.slice a0 len0 cap0] w fun e w' => e = .returned (.bool true) ∧ Below w.heap.size w w' := by
  obtain ⟨l0, rfl, hr0, hm0, hw0, hc0⟩ := ReadsInt.ofRowC w0
  obtain ⟨k, h⟩ := P l0 hm0 y0 hw0
  refine (laws_FnTurnLoad.calls k _ _ l0 true w (Kd.C_of_reads (d := (0 : Int)) (h1 := fun _ => rfl) hr0) hc0 h).mono ?_
  rintro e w' ⟨rfl, hd⟩
  exact ⟨rfl, hd⟩

end Go.Proofs.Ytcfmejfmjjgoaaa.Print
