-- Made by this session's own program (wip/patch_print.py, over the kit's print). Lean checks it.
import Derived.Test.YtfpfaaibgaejjaaPrint0
import Derived.Test.YtfpfaaibgaejjaaPrintB
import Derived.Test.YtfpfaaibgaejjaaPrintF42
import Derived.Test.YtfpfaaibgaejjaaPrintF43
import Derived.Test.YtfpfaaibgaejjaaPrintF44
namespace Go.Proofs.Ytfpfaaibgaejjaa.Print
open Go.RowKit Go.Proofs.YtfpfaaibgaejjaaW.PrintWords Go.Proofs.YtfpfaaibgaejjaaW.PrintLast Go.Proofs.YtfpfaaibgaejjaaW.PrintMore Go.Proofs.YtfpfaaibgaejjaaX
attribute [local go_sem] max2_int min2_int max_two min_two max_three min_three max_four min_four   -- for this text's walks alone
set_option linter.unusedVariables false
set_option linter.unusedSimpArgs false

theorem ng68_20 {B : Nat} {w W W' : World} (h : Below B w W) (e : Below B w W → Below B w W' := by intro h_; repeat (first | (with_reducible first | exact h_ | apply below_alloc | apply pw_below_drewN | apply below_drew1 | refine below_set ?_ (IsS68.ge (Aside0.out (by with_reducible assumption))) | refine below_set ?_ (Aside0.out (by with_reducible assumption))) | exact h_)) : Below B w W' := e h
theorem ni68_20 {p q : Prop} (h : p) (e : p → q := by intro h_; repeat (first | (with_reducible first | exact h_ | apply IsS68.alloc | apply IsS68.drewN | apply IsS68.drew | apply IsS68.set_1 | refine IsS68.far ?_ (Aside0.out (by with_reducible assumption)) _) | exact h_)) : q := e h
/-! ### spec_DrawStairOf: function 20 -/
def spec_DrawStairOf.f (k : Nat) (l0 : List Int) : Option ((List (S36))) := (spec_l30Open.f l0).bind fun bt277 => ((spec_l30Rd_one.f k bt277.1 bt277.2 (([3, 8, 20] : List Int))).bind fun bt283 => ((spec_l30Steps.f k bt277.1 bt283.2 bt283.1).bind fun bt285 => ((spec_l30Rd_pick.f k bt277.1 bt285.2 12).bind fun bt289 => (if bt289.1 = 0 then ((spec_l30Rd_one.f k bt277.1 bt289.2 (([(-1), 50] : List Int))).bind fun bt294 => (if bt285.1.length < 8796093022208 then (some (bt285.1 ++ [(⟨bt294.1, 40⟩ : S36)])) else (none))) else (some bt285.1)))))
theorem spec_DrawStairOf.mono : ∀ a0 k, LeO (spec_DrawStairOf.f k a0) (spec_DrawStairOf.f (k + 1) a0) := by
  intro a0 k
  unfold spec_DrawStairOf.f
  repeat' first | (with_reducible first | exact spec_l30Rd_one.mono _ _ _ _ | exact spec_l30Rd_pick.mono _ _ _ _ | exact spec_l30Steps.mono _ _ _ _ | exact LeO.refl _ | exact LeO.none _ | refine LeO.ite ?_ ?_ | refine LeO.bind ?_ (fun _ => ?_)) | exact spec_l30Rd_one.mono _ _ _ _ | exact spec_l30Rd_pick.mono _ _ _ _ | exact spec_l30Steps.mono _ _ _ _ | exact LeO.none _ | refine LeO.ite ?_ ?_ | refine LeO.bind ?_ (fun _ => ?_)
set_option maxHeartbeats 200000000 in
set_option maxRecDepth 100000 in
theorem spec_DrawStairOf.calls (k : Nat) (A0 : Option Addr) (c0 : Nat) (l0 : List Int) (r : List (S36)) (w : World) (hr0 : Kd.C (Kd.int .u8) w A0 l0.length l0) (hc0 : l0.length ≤ c0) (h : spec_DrawStairOf.f k l0 = some r) :
    Calls Try.prog 20 #[.slice A0 l0.length c0] w fun e w' => ∃ v0_ : Value, e = .returned (v0_) ∧ Kd.R k36 36 w' w.heap.size (fun _ => True) v0_ r ∧ Below w.heap.size w w' := by
  have hu36 := Try.underlying36
  have HR0 := Aside0.mk hr0
  have HC0 := Aside0.mk hc0
  clear hr0 hc0
  have HB := Aside0.mk (Below.refl w.heap.size w)
  have H : ((spec_l30Open.f l0).bind fun bt277 => ((spec_l30Rd_one.f k bt277.1 bt277.2 (([3, 8, 20] : List Int))).bind fun bt283 => ((spec_l30Steps.f k bt277.1 bt283.2 bt283.1).bind fun bt285 => ((spec_l30Rd_pick.f k bt277.1 bt285.2 12).bind fun bt289 => (if bt289.1 = 0 then ((spec_l30Rd_one.f k bt277.1 bt289.2 (([(-1), 50] : List Int))).bind fun bt294 => (if bt285.1.length < 8796093022208 then (some (bt285.1 ++ [(⟨bt294.1, 40⟩ : S36)])) else (none))) else (some bt285.1)))))) = some r := h
  clear h
  replace H := Option.bind_eq_some_iff.mp H
  obtain ⟨⟨t277, t278⟩, A20, H⟩ := H
  try dsimp only at H
  have A2 := Aside0.mk A20
  clear A20
  obtain ⟨y280, hy280⟩ : ∃ y_ : List Int, y_ = (([3, 8, 20] : List Int)) := ⟨_, rfl⟩
  replace H : ((spec_l30Rd_one.f k t277 t278 y280).bind fun bt283 => ((spec_l30Steps.f k t277 bt283.2 bt283.1).bind fun bt285 => ((spec_l30Rd_pick.f k t277 bt285.2 12).bind fun bt289 => (if bt289.1 = 0 then ((spec_l30Rd_one.f k t277 bt289.2 (([(-1), 50] : List Int))).bind fun bt294 => (if bt285.1.length < 8796093022208 then (some (bt285.1 ++ [(⟨bt294.1, 40⟩ : S36)])) else (none))) else (some bt285.1))))) = some r := by first | (rw [hy280]; with_reducible exact H) | (have H2_ := (Option.bind_some _ _).symm.trans H; rw [hy280]; with_reducible exact H2_) | (have H2_ := (Option.bind_some _ _).symm.trans H; with_reducible exact H2_) | with_reducible exact H | (rw [hy280]; exact H) | exact H
  have Ny280 := Aside0.mk hy280
  clear hy280
  replace H := Option.bind_eq_some_iff.mp H
  obtain ⟨⟨t283, t284⟩, A30, H⟩ := H
  try dsimp only at H
  have A3 := Aside0.mk A30
  clear A30
  replace H := Option.bind_eq_some_iff.mp H
  obtain ⟨⟨t285, t288⟩, A40, H⟩ := H
  try dsimp only at H
  have A4 := Aside0.mk A40
  clear A40
  replace H := Option.bind_eq_some_iff.mp H
  obtain ⟨⟨t289, t290⟩, A50, H⟩ := H
  try dsimp only at H
  have A5 := Aside0.mk A50
  clear A50
  by_cases c6 : t289 = 0
  rotate_left
  ·rw [if_neg c6] at H
   have c6b0 : (t289 == 0) = false := beq_eq_false_iff_ne.mpr c6
   have c6b1 : (t289 != 0) = true := bne_iff_ne.mpr c6
   obtain rfl := Option.some.inj H
   go_enter Try.func20, Try.ntmps20
   go_wp2_with (first | ((with_reducible refine gate_callee (f := 41) rfl ?_); refine gl_ (some 6) Try.func41 #[.slice A0 l0.length c0] ?_; (with_reducible refine (spec_l30Open.calls _ _ l0 t277 t278 w _ ?side1 ?side2 ?side3 A2.out).mono ?_); (case side1 => exact (ne_ HB.out)); (case side2 => exact HR0.out); (case side3 => exact HC0.out); rintro e w21 ⟨g279, rfl, hi, hb, hb2⟩; refine ⟨_, rfl, ?_⟩; have HI279 := Aside0.mk (hi); replace HB := Aside0.mk (hb); (try clear hb); (try clear hb2); (try clear hk); (try clear hi)) | ((with_reducible refine gate_dst (N := 9) rfl ?_); refine li_ 9 3 [3, 8, 20] [.int .i64 3, .int .i64 8, .int .i64 20] ?_; intro v281 w22 ho23 hb hg_ hnew_; clear hg_ hnew_; (first | rw [← Ny280.out] at ho23 | (simp only [Int.reduceToNat] at ho23; rw [← Ny280.out] at ho23)); have HO282 := Aside0.mk (Kd.R_lower ho23 (below_size (ng68_20 HB.out))); replace HI279 := Aside0.mk (IsS68.below (ni68_20 HI279.out) hb); replace HB := Aside0.mk (below_step (ng68_20 HB.out) hb); clear hb ho23; obtain ⟨Ao24, co24, eo24⟩ := Kd.R_slice HO282.out; subst eo24) | ((with_reducible refine gate_callee (f := 43) rfl ?_); refine gl_ (some 10) Try.func43 #[.pointer (some ⟨g279, 0, none⟩), .slice Ao24 y280.length co24] ?_; (with_reducible refine (spec_l30Rd_one.calls k g279 t277 t278 _ _ y280 t283 t284 w _ ?side1 ?side2 ?side3 ?side4 ?side5 A3.out).mono ?_); (case side1 => exact (ni68_20 HI279.out)); (case side2 => exact (ng68_20 HB.out)); (case side3 => exact nc_ (Kd.R_reads' HO282.out).2.2); (case side4 => exact (Kd.R_reads' HO282.out).2.1); (case side5 => exact far_slice (IsS68.own_ne HI279.out HO282.out (by decide))); rintro e w25 ⟨rfl, hi, hb, hk⟩; refine ⟨_, rfl, ?_⟩; replace HO282 := Aside0.mk (Kd.R_mono (Kd.R_keep (IsS68.apart (show IsS68 w _ g279 t277 t278 from ni68_20 HI279.out) (nr_ HO282.out) (by decide)) hk (fun _ h => h.2)) (fun _ h => h.1)); replace HB := Aside0.mk (hb); replace HI279 := Aside0.mk (hi); (try clear hb); (try clear hb2); (try clear hk); (try clear hi)) | ((with_reducible refine gate_callee (f := 42) rfl ?_); refine gl_ (some 11) Try.func42 #[.pointer (some ⟨g279, 0, none⟩), .int .i64 t283] ?_; (with_reducible refine (spec_l30Steps.calls k g279 t277 t284 t283 t285 t288 w _ ?side1 ?side2 A4.out).mono ?_); (case side1 => exact (ni68_20 HI279.out)); (case side2 => exact (ng68_20 HB.out)); rintro e w26 ⟨v286, rfl, ho0, hi, hb, hk⟩; refine ⟨_, rfl, ?_⟩; have HO287 := Aside0.mk (Kd.R_lower ho0 (below_size (ng68_20 HB.out))); replace HO282 := Aside0.mk (Kd.R_mono (Kd.R_keep (IsS68.apart (show IsS68 w _ g279 t277 t284 from ni68_20 HI279.out) (nr_ HO282.out) (by decide)) hk (fun _ h => h.2)) (fun _ h => h.1)); replace HB := Aside0.mk (hb); replace HI279 := Aside0.mk (hi); (try clear hb); (try clear hb2); (try clear hk); (try clear hi); (try clear ho0)) | ((with_reducible refine gate_callee (f := 44) rfl ?_); refine gl_ (some 13) Try.func44 #[.pointer (some ⟨g279, 0, none⟩), .int .i64 12] ?_; (with_reducible refine (spec_l30Rd_pick.calls k g279 t277 t288 12 t289 t290 w _ ?side1 ?side2 A5.out).mono ?_); (case side1 => exact (ni68_20 HI279.out)); (case side2 => exact (ng68_20 HB.out)); rintro e w27 ⟨rfl, hi, hb, hk⟩; refine ⟨_, rfl, ?_⟩; replace HO282 := Aside0.mk (Kd.R_mono (Kd.R_keep (IsS68.apart (show IsS68 w _ g279 t277 t288 from ni68_20 HI279.out) (nr_ HO282.out) (by decide)) hk (fun _ h => h.2)) (fun _ h => h.1)); replace HO287 := Aside0.mk (Kd.R_mono (Kd.R_keep (IsS68.apart (show IsS68 w _ g279 t277 t288 from ni68_20 HI279.out) (nr_ HO287.out) (by decide)) hk (fun _ h => h.2)) (fun _ h => h.1)); replace HB := Aside0.mk (hb); replace HI279 := Aside0.mk (hi); (try clear hb); (try clear hb2); (try clear hk); (try clear hi)))
   go_ret
   exact ⟨_, nw_, nr_ HO287.out, by repeat (first | (with_reducible first | exact HB.out | apply below_alloc | apply pw_below_drewN | apply below_drew1 | refine below_set ?_ (IsS68.ge HI279.out)) | exact HB.out)⟩

  rw [if_pos c6] at H
  have c6b0 : (t289 == 0) = true := beq_iff_eq.mpr c6
  have c6b1 : (t289 != 0) = false := bne_eq_false_iff_eq.mpr c6
  clear c6
  obtain ⟨y291, hy291⟩ : ∃ y_ : List Int, y_ = (([(-1), 50] : List Int)) := ⟨_, rfl⟩
  replace H : ((spec_l30Rd_one.f k t277 t290 y291).bind fun bt294 => (if t285.length < 8796093022208 then (some (t285 ++ [(⟨bt294.1, 40⟩ : S36)])) else (none))) = some r := by first | (rw [hy291]; with_reducible exact H) | (have H2_ := (Option.bind_some _ _).symm.trans H; rw [hy291]; with_reducible exact H2_) | (have H2_ := (Option.bind_some _ _).symm.trans H; with_reducible exact H2_) | with_reducible exact H | (rw [hy291]; exact H) | exact H
  have Ny291 := Aside0.mk hy291
  clear hy291
  replace H := Option.bind_eq_some_iff.mp H
  obtain ⟨⟨t294, t295⟩, A70, H⟩ := H
  replace H : (if t285.length < 8796093022208 then (some (t285 ++ [(⟨t294, 40⟩ : S36)])) else (none)) = some r := H
  have A7 := Aside0.mk A70
  clear A70
  by_cases c8 : t285.length < 8796093022208
  rotate_left
  ·rw [if_neg c8] at H
   exact absurd H (by simp)
  rw [if_pos c8] at H
  have LMc8 := Aside0.mk c8
  clear c8
  obtain ⟨y296, hy296⟩ : ∃ y_ : List (S36), y_ = (t285 ++ [(⟨t294, 40⟩ : S36)]) := ⟨_, rfl⟩
  replace H : (some y296) = some r := by first | (rw [hy296]; with_reducible exact H) | (have H2_ := (Option.bind_some _ _).symm.trans H; rw [hy296]; with_reducible exact H2_) | (have H2_ := (Option.bind_some _ _).symm.trans H; with_reducible exact H2_) | with_reducible exact H | (rw [hy296]; exact H) | exact H
  have Ny296 := Aside0.mk hy296
  clear hy296
  obtain rfl := Option.some.inj H
  go_enter Try.func20, Try.ntmps20
  go_wp2_with (first | ((with_reducible refine gate_callee (f := 41) rfl ?_); refine gl_ (some 6) Try.func41 #[.slice A0 l0.length c0] ?_; (with_reducible refine (spec_l30Open.calls _ _ l0 t277 t278 w _ ?side1 ?side2 ?side3 A2.out).mono ?_); (case side1 => exact (ne_ HB.out)); (case side2 => exact HR0.out); (case side3 => exact HC0.out); rintro e w9 ⟨g279, rfl, hi, hb, hb2⟩; refine ⟨_, rfl, ?_⟩; have HI279 := Aside0.mk (hi); replace HB := Aside0.mk (hb); (try clear hb); (try clear hb2); (try clear hk); (try clear hi)) | ((with_reducible refine gate_dst (N := 9) rfl ?_); refine li_ 9 3 [3, 8, 20] [.int .i64 3, .int .i64 8, .int .i64 20] ?_; intro v281 w10 ho11 hb hg_ hnew_; clear hg_ hnew_; (first | rw [← Ny280.out] at ho11 | (simp only [Int.reduceToNat] at ho11; rw [← Ny280.out] at ho11)); have HO282 := Aside0.mk (Kd.R_lower ho11 (below_size (ng68_20 HB.out))); replace HI279 := Aside0.mk (IsS68.below (ni68_20 HI279.out) hb); replace HB := Aside0.mk (below_step (ng68_20 HB.out) hb); clear hb ho11; obtain ⟨Ao12, co12, eo12⟩ := Kd.R_slice HO282.out; subst eo12) | ((with_reducible refine gate_callee (f := 43) rfl ?_); refine gl_ (some 10) Try.func43 #[.pointer (some ⟨g279, 0, none⟩), .slice Ao12 y280.length co12] ?_; (with_reducible refine (spec_l30Rd_one.calls k g279 t277 t278 _ _ y280 t283 t284 w _ ?side1 ?side2 ?side3 ?side4 ?side5 A3.out).mono ?_); (case side1 => exact (ni68_20 HI279.out)); (case side2 => exact (ng68_20 HB.out)); (case side3 => exact nc_ (Kd.R_reads' HO282.out).2.2); (case side4 => exact (Kd.R_reads' HO282.out).2.1); (case side5 => exact far_slice (IsS68.own_ne HI279.out HO282.out (by decide))); rintro e w13 ⟨rfl, hi, hb, hk⟩; refine ⟨_, rfl, ?_⟩; replace HO282 := Aside0.mk (Kd.R_mono (Kd.R_keep (IsS68.apart (show IsS68 w _ g279 t277 t278 from ni68_20 HI279.out) (nr_ HO282.out) (by decide)) hk (fun _ h => h.2)) (fun _ h => h.1)); replace HB := Aside0.mk (hb); replace HI279 := Aside0.mk (hi); (try clear hb); (try clear hb2); (try clear hk); (try clear hi)) | ((with_reducible refine gate_callee (f := 42) rfl ?_); refine gl_ (some 11) Try.func42 #[.pointer (some ⟨g279, 0, none⟩), .int .i64 t283] ?_; (with_reducible refine (spec_l30Steps.calls k g279 t277 t284 t283 t285 t288 w _ ?side1 ?side2 A4.out).mono ?_); (case side1 => exact (ni68_20 HI279.out)); (case side2 => exact (ng68_20 HB.out)); rintro e w14 ⟨v286, rfl, ho0, hi, hb, hk⟩; refine ⟨_, rfl, ?_⟩; have HO287 := Aside0.mk (Kd.R_lower ho0 (below_size (ng68_20 HB.out))); replace HO282 := Aside0.mk (Kd.R_mono (Kd.R_keep (IsS68.apart (show IsS68 w _ g279 t277 t284 from ni68_20 HI279.out) (nr_ HO282.out) (by decide)) hk (fun _ h => h.2)) (fun _ h => h.1)); replace HB := Aside0.mk (hb); replace HI279 := Aside0.mk (hi); (try clear hb); (try clear hb2); (try clear hk); (try clear hi); (try clear ho0)) | ((with_reducible refine gate_callee (f := 44) rfl ?_); refine gl_ (some 13) Try.func44 #[.pointer (some ⟨g279, 0, none⟩), .int .i64 12] ?_; (with_reducible refine (spec_l30Rd_pick.calls k g279 t277 t288 12 t289 t290 w _ ?side1 ?side2 A5.out).mono ?_); (case side1 => exact (ni68_20 HI279.out)); (case side2 => exact (ng68_20 HB.out)); rintro e w15 ⟨rfl, hi, hb, hk⟩; refine ⟨_, rfl, ?_⟩; replace HO282 := Aside0.mk (Kd.R_mono (Kd.R_keep (IsS68.apart (show IsS68 w _ g279 t277 t288 from ni68_20 HI279.out) (nr_ HO282.out) (by decide)) hk (fun _ h => h.2)) (fun _ h => h.1)); replace HO287 := Aside0.mk (Kd.R_mono (Kd.R_keep (IsS68.apart (show IsS68 w _ g279 t277 t288 from ni68_20 HI279.out) (nr_ HO287.out) (by decide)) hk (fun _ h => h.2)) (fun _ h => h.1)); replace HB := Aside0.mk (hb); replace HI279 := Aside0.mk (hi); (try clear hb); (try clear hb2); (try clear hk); (try clear hi)) | ((with_reducible refine gate_dst (N := 17) rfl ?_); refine li_ 17 3 [(-1), 50] [.int .i64 (-1), .int .i64 50] ?_; intro v292 w16 ho17 hb hg_ hnew_; clear hg_ hnew_; (first | rw [← Ny291.out] at ho17 | (simp only [Int.reduceToNat] at ho17; rw [← Ny291.out] at ho17)); have HO293 := Aside0.mk (Kd.R_lower (Kd.R_new' ho17 (Kd.R_lt (nr_ HO282.out))) (below_size (ng68_20 HB.out))); replace HO282 := Aside0.mk (Kd.R_elder' (nr_ HO282.out) (Kd.R_base ho17) hb); replace HO287 := kR_ HO287 hb; replace HI279 := Aside0.mk (IsS68.below (ni68_20 HI279.out) hb); replace HB := Aside0.mk (below_step (ng68_20 HB.out) hb); clear hb ho17; obtain ⟨Ao18, co18, eo18⟩ := Kd.R_slice HO293.out; subst eo18) | ((with_reducible refine gate_callee (f := 43) rfl ?_); refine gl_ (some 18) Try.func43 #[.pointer (some ⟨g279, 0, none⟩), .slice Ao18 y291.length co18] ?_; (with_reducible refine (spec_l30Rd_one.calls k g279 t277 t290 _ _ y291 t294 t295 w _ ?side1 ?side2 ?side3 ?side4 ?side5 A7.out).mono ?_); (case side1 => exact (ni68_20 HI279.out)); (case side2 => exact (ng68_20 HB.out)); (case side3 => exact nc_ (Kd.R_reads' HO293.out).2.2); (case side4 => exact (Kd.R_reads' HO293.out).2.1); (case side5 => exact far_slice (IsS68.own_ne HI279.out HO293.out (by decide))); rintro e w19 ⟨rfl, hi, hb, hk⟩; refine ⟨_, rfl, ?_⟩; replace HO282 := Aside0.mk (Kd.R_mono (Kd.R_keep (IsS68.apart (show IsS68 w _ g279 t277 t290 from ni68_20 HI279.out) (nr_ HO282.out) (by decide)) hk (fun _ h => h.2)) (fun _ h => h.1)); replace HO287 := Aside0.mk (Kd.R_mono (Kd.R_keep (IsS68.apart (show IsS68 w _ g279 t277 t290 from ni68_20 HI279.out) (nr_ HO287.out) (by decide)) hk (fun _ h => h.2)) (fun _ h => h.1)); replace HO293 := Aside0.mk (Kd.R_mono (Kd.R_keep (IsS68.apart (show IsS68 w _ g279 t277 t290 from ni68_20 HI279.out) (nr_ HO293.out) (by decide)) hk (fun _ h => h.2)) (fun _ h => h.1)); replace HB := Aside0.mk (hb); replace HI279 := Aside0.mk (hi); (try clear hb); (try clear hb2); (try clear hk); (try clear hi)) | ((with_reducible refine gate_builtin (b := .append) (xs := #[.tmp 15, .tmp 20]) rfl ?_); at_builtin; refine Kd.R_append k36 (w0 := w) w.heap.size rfl (.tmp 15) (.tmp 20) 22 36 (.agg #[(.int .i64 0), (.int .i64 0)]) 16 rfl Try.underlying22 info36 rfl (by decide) (by omega) v286 t285 (⟨t294, 40⟩ : S36) [.int .i64 t294, .int .i64 40] (fun _ => True) (fun _ => False) rfl rfl ?aP (fun _ hk => hk.elim) ?aF ?aO ?aB ?aS ?aL ?_; (case aP => exact k36_mkM _ _ _ (⟨t294, 40⟩ : S36)); (case aB => exact (ng68_20 HB.out)); (case aF => exact (fun _ _ => trivial)); (case aO => exact (nr_ HO287.out)); (case aS => exact (below_size (ng68_20 HB.out))); (case aL => have := LMc8.out; omega); intro v297 w20 ho hb hg hat; rw [← Ny296.out] at ho; have HO298 := Aside0.mk (ho); replace HI279 := Aside0.mk (IsS68.grown (show IsS68 w _ g279 t277 t295 from ni68_20 HI279.out) hg (IsS68.own_ne HI279.out HO287.out (by decide))); replace HO282 := Aside0.mk (Kd.R_over' (nr_ HO282.out) (Kd.R_typed (nr_ HO287.out)) (by decide) hg); replace HO293 := Aside0.mk (Kd.R_over' (nr_ HO293.out) (Kd.R_typed (nr_ HO287.out)) (by decide) hg); replace HB := Aside0.mk (hb); clear HO287; clear ho hb hg hat))
  go_ret
  exact ⟨_, nw_, nr_ HO298.out, by repeat (first | (with_reducible first | exact HB.out | apply below_alloc | apply pw_below_drewN | apply below_drew1 | refine below_set ?_ (IsS68.ge HI279.out)) | exact HB.out)⟩
end Go.Proofs.Ytfpfaaibgaejjaa.Print
