-- Made by this session's own program (wip/patch_print.py, over the kit's print). Lean checks it.
import Derived.Test.YtgnnimhhkbbfiaaPrint0
import Derived.Test.YtgnnimhhkbbfiaaPrintB
import Derived.Test.YtgnnimhhkbbfiaaPrintF25
import Derived.Test.YtgnnimhhkbbfiaaPrintF26
namespace Go.Proofs.Ytgnnimhhkbbfiaa.Print
open Go.RowKit Go.Proofs.YtgnnimhhkbbfiaaW.PrintWords Go.Proofs.YtgnnimhhkbbfiaaW.PrintLast Go.Proofs.YtgnnimhhkbbfiaaW.PrintMore Go.Proofs.YtgnnimhhkbbfiaaX
attribute [local go_sem] max2_int min2_int max_two min_two max_three min_three max_four min_four   -- for this text's walks alone
set_option linter.unusedVariables false
set_option linter.unusedSimpArgs false

theorem ng52_14 {B : Nat} {w W W' : World} (h : Below B w W) (e : Below B w W → Below B w W' := by intro h_; repeat (first | (with_reducible first | exact h_ | apply below_alloc | apply pw_below_drewN | apply below_drew1 | refine below_set ?_ (IsS52.ge (Aside0.out (by with_reducible assumption))) | refine below_set ?_ (Aside0.out (by with_reducible assumption))) | exact h_)) : Below B w W' := e h
theorem ni52_14 {p q : Prop} (h : p) (e : p → q := by intro h_; repeat (first | (with_reducible first | exact h_ | apply IsS52.alloc | apply IsS52.drewN | apply IsS52.drew | apply IsS52.set_1 | refine IsS52.far ?_ (Aside0.out (by with_reducible assumption)) _) | exact h_)) : q := e h
/-! ### spec_l30Node: function 14 -/
def spec_l30Node.f (k : Nat) (s0_0 : List Int) (s0_1 : Int) (a1_0 : Int) (l1_1 : List (S47)) : Option (Int × Int) := (spec_l30Rd_pick.f k s0_0 s0_1 16).bind fun bt171 => (if bt171.1 = 0 then ((spec_l30Rd_one.f k s0_0 bt171.2 (([(-1), a1_0] : List Int))).bind fun bt176 => (some (bt176.1, bt176.2))) else ((spec_l30Rd_pick.f k s0_0 bt171.2 a1_0).bind fun bt178 => (some (bt178.1, bt178.2))))
theorem spec_l30Node.mono : ∀ a0 a1 a2 a3 k, LeO (spec_l30Node.f k a0 a1 a2 a3) (spec_l30Node.f (k + 1) a0 a1 a2 a3) := by
  intro a0 a1 a2 a3 k
  unfold spec_l30Node.f
  repeat' first | (with_reducible first | exact spec_l30Rd_one.mono _ _ _ _ | exact spec_l30Rd_pick.mono _ _ _ _ | exact LeO.refl _ | exact LeO.none _ | refine LeO.ite ?_ ?_ | refine LeO.bind ?_ (fun _ => ?_)) | exact spec_l30Rd_one.mono _ _ _ _ | exact spec_l30Rd_pick.mono _ _ _ _ | exact LeO.none _ | refine LeO.ite ?_ ?_ | refine LeO.bind ?_ (fun _ => ?_)
set_option maxHeartbeats 200000000 in
set_option maxRecDepth 100000 in
theorem spec_l30Node.calls (k : Nat) (g : Nat) (s0_0 : List Int) (s0_1 : Int) (a1_0 : Int) (A1_1 : Option Addr) (c1_1 : Nat) (l1_1 : List (S47)) (r1 : Int) (r2 : Int) (w0 w : World) (hI : IsS52 w0 w g s0_0 s0_1) (hB : Below w0.heap.size w0 w) (hr1_1 : ∀ W_, KeepBut w W_ g none → Kd.C k47 W_ A1_1 l1_1.length l1_1) (hc1_1 : l1_1.length ≤ c1_1) (h : spec_l30Node.f k s0_0 s0_1 a1_0 l1_1 = some (r1, r2)) :
    Calls Try.prog 14 #[.pointer (some ⟨g, 0, none⟩), .agg #[.int .i64 a1_0, .slice A1_1 l1_1.length c1_1]] w fun e w' => e = .returned (.int .i64 r1) ∧ IsS52 w0 w' g s0_0 r2 ∧ Below w0.heap.size w0 w' ∧ KeepBut w w' g none := by
  have hu25 := Try.underlying25
  have HR1_1 := Aside0.mk hr1_1
  have HC1_1 := Aside0.mk hc1_1
  clear hr1_1 hc1_1
  have HI0 := Aside0.mk hI
  have HK := Aside0.mk (KeepBut.refl w g none)
  have HL := Aside0.mk hB.size
  clear hI
  have HW0 := Aside0.mk hB.size
  have HB := Aside0.mk hB
  clear hB
  have H : ((spec_l30Rd_pick.f k s0_0 s0_1 16).bind fun bt171 => (if bt171.1 = 0 then ((spec_l30Rd_one.f k s0_0 bt171.2 (([(-1), a1_0] : List Int))).bind fun bt176 => (some (bt176.1, bt176.2))) else ((spec_l30Rd_pick.f k s0_0 bt171.2 a1_0).bind fun bt178 => (some (bt178.1, bt178.2))))) = some (r1, r2) := h
  clear h
  replace H := Option.bind_eq_some_iff.mp H
  obtain ⟨⟨t171, t172⟩, A30, H⟩ := H
  try dsimp only at H
  have A3 := Aside0.mk A30
  clear A30
  by_cases c4 : t171 = 0
  rotate_left
  ·rw [if_neg c4] at H
   have c4b0 : (t171 == 0) = false := beq_eq_false_iff_ne.mpr c4
   have c4b1 : (t171 != 0) = true := bne_iff_ne.mpr c4
   replace H := Option.bind_eq_some_iff.mp H
   obtain ⟨⟨t178, t179⟩, A140, H⟩ := H
   replace H : (some (t178, t179)) = some (r1, r2) := H
   have A14 := Aside0.mk A140
   clear A140
   simp only [Option.some.injEq, Prod.mk.injEq] at H
   obtain ⟨rfl, rfl⟩ := H
   go_enter Try.func14, Try.ntmps14
   go_wp2_with (first | ((with_reducible refine gate_dst (N := 3) rfl ?_); refine bx_ 3 #[.int .i64 a1_0, .slice A1_1 l1_1.length c1_1] 25 ?_; intro gb170 hg w15 hbox hb; have BK170 := Aside0.mk (hbox); have GW170 := Aside0.mk (zk_ hg (nk_ HK.out)); have GE170 := Aside0.mk ((Nat.le_trans HW0.out (by rw [hg]; exact (keep_size (w := w) (g := g) (row := none) (nk_ HK.out)) : w.heap.size ≤ gb170) : w0.heap.size ≤ gb170)); have NB0_170 := Aside0.mk ((by rw [hg]; exact Nat.ne_of_lt (IsS52.lt (show IsS52 w0 _ g s0_0 s0_1 from ni52_14 HI0.out)) : g ≠ gb170)); have NB170_0 := Aside0.mk ((by rw [hg]; exact Nat.ne_of_gt (IsS52.lt (show IsS52 w0 _ g s0_0 s0_1 from ni52_14 HI0.out)) : gb170 ≠ g)); replace HI0 := Aside0.mk (IsS52.below (ni52_14 HI0.out) hb); replace HK := Aside0.mk (KeepBut.trans (nk_ HK.out) (KeepBut.of_below hb g none) (.inl rfl)); replace HB := Aside0.mk (below_step (ng52_14 HB.out) hb); clear hb hbox hg) | ((with_reducible refine gate_callee (f := 25) rfl ?_); refine gl_ (some 6) Try.func25 #[.pointer (some ⟨g, 0, none⟩), .int .i64 16] ?_; (with_reducible refine (spec_l30Rd_pick.calls k g s0_0 s0_1 16 t171 t172 w0 _ ?side1 ?side2 A3.out).mono ?_); (case side1 => repeat (first | (with_reducible first | exact HI0.out | apply IsS52.alloc | apply IsS52.drewN | apply IsS52.drew | apply IsS52.set_1 | refine IsS52.far ?_ NB0_170.out _) | exact HI0.out)); (case side2 => exact (ng52_14 HB.out)); rintro e w16 ⟨rfl, hi, hb, hk⟩; refine ⟨_, rfl, ?_⟩; replace BK170 := kk_ BK170 hk NB170_0; replace HK := Aside0.mk (KeepBut.trans (nk_ HK.out) hk (.inl rfl)); replace HB := Aside0.mk (hb); replace HI0 := Aside0.mk (hi); (try clear hb); (try clear hb2); (try clear hk); (try clear hi); have hnb17 := NB170_0.out; have hnc17 := NB0_170.out; obtain ⟨hcz18_0, hcz18_1, hfz18_0, hfz18_1⟩ := cz2_ BK170.out) | ((with_reducible refine gate_callee (f := 25) rfl ?_); refine gl_ (some 16) Try.func25 #[.pointer (some ⟨g, 0, none⟩), .int .i64 a1_0] ?_; (with_reducible refine (spec_l30Rd_pick.calls k g s0_0 t172 a1_0 t178 t179 w0 _ ?side1 ?side2 A14.out).mono ?_); (case side1 => repeat (first | (with_reducible first | exact HI0.out | apply IsS52.alloc | apply IsS52.drewN | apply IsS52.drew | apply IsS52.set_1 | refine IsS52.far ?_ NB0_170.out _) | exact HI0.out)); (case side2 => exact (ng52_14 HB.out)); rintro e w19 ⟨rfl, hi, hb, hk⟩; refine ⟨_, rfl, ?_⟩; replace BK170 := kk_ BK170 hk NB170_0; replace HK := Aside0.mk (KeepBut.trans (nk_ HK.out) hk (.inl rfl)); replace HB := Aside0.mk (hb); replace HI0 := Aside0.mk (hi); (try clear hb); (try clear hb2); (try clear hk); (try clear hi)))
   go_ret
   exact ⟨nw_, ni52_14 HI0.out, by repeat (first | (with_reducible first | exact HB.out | apply below_alloc | apply pw_below_drewN | apply below_drew1 | refine below_set ?_ (IsS52.ge HI0.out) | refine below_set ?_ GE170.out) | exact HB.out), nk_ HK.out⟩

  rw [if_pos c4] at H
  have c4b0 : (t171 == 0) = true := beq_iff_eq.mpr c4
  have c4b1 : (t171 != 0) = false := bne_eq_false_iff_eq.mpr c4
  clear c4
  obtain ⟨y173, hy173⟩ : ∃ y_ : List Int, y_ = (([(-1), a1_0] : List Int)) := ⟨_, rfl⟩
  replace H : ((spec_l30Rd_one.f k s0_0 t172 y173).bind fun bt176 => (some (bt176.1, bt176.2))) = some (r1, r2) := by first | (rw [hy173]; with_reducible exact H) | (have H2_ := (Option.bind_some _ _).symm.trans H; rw [hy173]; with_reducible exact H2_) | (have H2_ := (Option.bind_some _ _).symm.trans H; with_reducible exact H2_) | with_reducible exact H | (rw [hy173]; exact H) | exact H
  have Ny173 := Aside0.mk hy173
  clear hy173
  replace H := Option.bind_eq_some_iff.mp H
  obtain ⟨⟨t176, t177⟩, A50, H⟩ := H
  replace H : (some (t176, t177)) = some (r1, r2) := H
  have A5 := Aside0.mk A50
  clear A50
  simp only [Option.some.injEq, Prod.mk.injEq] at H
  obtain ⟨rfl, rfl⟩ := H
  go_enter Try.func14, Try.ntmps14
  go_wp2_with (first | ((with_reducible refine gate_dst (N := 3) rfl ?_); refine bx_ 3 #[.int .i64 a1_0, .slice A1_1 l1_1.length c1_1] 25 ?_; intro gb170 hg w6 hbox hb; have BK170 := Aside0.mk (hbox); have GW170 := Aside0.mk (zk_ hg (nk_ HK.out)); have GE170 := Aside0.mk ((Nat.le_trans HW0.out (by rw [hg]; exact (keep_size (w := w) (g := g) (row := none) (nk_ HK.out)) : w.heap.size ≤ gb170) : w0.heap.size ≤ gb170)); have NB0_170 := Aside0.mk ((by rw [hg]; exact Nat.ne_of_lt (IsS52.lt (show IsS52 w0 _ g s0_0 s0_1 from ni52_14 HI0.out)) : g ≠ gb170)); have NB170_0 := Aside0.mk ((by rw [hg]; exact Nat.ne_of_gt (IsS52.lt (show IsS52 w0 _ g s0_0 s0_1 from ni52_14 HI0.out)) : gb170 ≠ g)); replace HI0 := Aside0.mk (IsS52.below (ni52_14 HI0.out) hb); replace HK := Aside0.mk (KeepBut.trans (nk_ HK.out) (KeepBut.of_below hb g none) (.inl rfl)); replace HB := Aside0.mk (below_step (ng52_14 HB.out) hb); clear hb hbox hg) | ((with_reducible refine gate_callee (f := 25) rfl ?_); refine gl_ (some 6) Try.func25 #[.pointer (some ⟨g, 0, none⟩), .int .i64 16] ?_; (with_reducible refine (spec_l30Rd_pick.calls k g s0_0 s0_1 16 t171 t172 w0 _ ?side1 ?side2 A3.out).mono ?_); (case side1 => repeat (first | (with_reducible first | exact HI0.out | apply IsS52.alloc | apply IsS52.drewN | apply IsS52.drew | apply IsS52.set_1 | refine IsS52.far ?_ NB0_170.out _) | exact HI0.out)); (case side2 => exact (ng52_14 HB.out)); rintro e w7 ⟨rfl, hi, hb, hk⟩; refine ⟨_, rfl, ?_⟩; replace BK170 := kk_ BK170 hk NB170_0; replace HK := Aside0.mk (KeepBut.trans (nk_ HK.out) hk (.inl rfl)); replace HB := Aside0.mk (hb); replace HI0 := Aside0.mk (hi); (try clear hb); (try clear hb2); (try clear hk); (try clear hi); have hnb8 := NB170_0.out; have hnc8 := NB0_170.out; obtain ⟨hcz9_0, hcz9_1, hfz9_0, hfz9_1⟩ := cz2_ BK170.out) | ((with_reducible refine gate_dst (N := 11) rfl ?_); refine li_ 11 3 [(-1), a1_0] [.int .i64 (-1), .int .i64 a1_0] ?_; intro v174 w10 ho11 hb hg_ hnew_; clear hg_ hnew_; (first | rw [← Ny173.out] at ho11 | (simp only [Int.reduceToNat] at ho11; rw [← Ny173.out] at ho11)); have HO175 := Aside0.mk (Kd.R_lower ho11 (keep_size (w := w) (g := g) (row := none) (nk_ HK.out))); replace HI0 := Aside0.mk (IsS52.below (ni52_14 HI0.out) hb); replace BK170 := kb_ BK170 hb; replace HK := Aside0.mk (KeepBut.trans (nk_ HK.out) (KeepBut.of_below hb g none) (.inl rfl)); replace HB := Aside0.mk (below_step (ng52_14 HB.out) hb); clear hb ho11; obtain ⟨Ao12, co12, eo12⟩ := Kd.R_slice HO175.out; subst eo12) | ((with_reducible refine gate_callee (f := 26) rfl ?_); refine gl_ (some 12) Try.func26 #[.pointer (some ⟨g, 0, none⟩), .slice Ao12 y173.length co12] ?_; (with_reducible refine (spec_l30Rd_one.calls k g s0_0 t172 _ _ y173 t176 t177 w0 _ ?side1 ?side2 ?side3 ?side4 ?side5 A5.out).mono ?_); (case side1 => repeat (first | (with_reducible first | exact HI0.out | apply IsS52.alloc | apply IsS52.drewN | apply IsS52.drew | apply IsS52.set_1 | refine IsS52.far ?_ NB0_170.out _) | exact HI0.out)); (case side2 => exact (ng52_14 HB.out)); (case side3 => exact nc_ (Kd.R_reads' HO175.out).2.2); (case side4 => exact (Kd.R_reads' HO175.out).2.1); (case side5 => exact far_slice (IsS52.own_ne HI0.out HO175.out (by decide))); rintro e w13 ⟨rfl, hi, hb, hk⟩; refine ⟨_, rfl, ?_⟩; replace BK170 := kk_ BK170 hk NB170_0; replace HO175 := Aside0.mk (Kd.R_mono (Kd.R_keep (IsS52.apart (show IsS52 w0 _ g s0_0 t172 from ni52_14 HI0.out) (nr_ HO175.out) (by decide)) hk (fun _ h => h.2)) (fun _ h => h.1)); replace HK := Aside0.mk (KeepBut.trans (nk_ HK.out) hk (.inl rfl)); replace HB := Aside0.mk (hb); replace HI0 := Aside0.mk (hi); (try clear hb); (try clear hb2); (try clear hk); (try clear hi)))
  go_ret
  exact ⟨nw_, ni52_14 HI0.out, by repeat (first | (with_reducible first | exact HB.out | apply below_alloc | apply pw_below_drewN | apply below_drew1 | refine below_set ?_ (IsS52.ge HI0.out) | refine below_set ?_ GE170.out) | exact HB.out), nk_ HK.out⟩
end Go.Proofs.Ytgnnimhhkbbfiaa.Print
