-- Made by this session's own program (wip/patch_print.py, over the kit's print). Lean checks it.
import Derived.Test.YtfpfaaibgaejjaaPrint0
import Derived.Test.YtfpfaaibgaejjaaPrintF21
import Derived.Test.YtfpfaaibgaejjaaPrintF23
import Derived.Test.YtfpfaaibgaejjaaPrintF24
import Derived.Test.YtfpfaaibgaejjaaPrintF25
import Derived.Test.YtfpfaaibgaejjaaPrintF26
namespace Go.Proofs.Ytfpfaaibgaejjaa.Print
open Go.RowKit Go.Proofs.YtfpfaaibgaejjaaW.PrintWords Go.Proofs.YtfpfaaibgaejjaaW.PrintLast Go.Proofs.YtfpfaaibgaejjaaW.PrintMore Go.Proofs.YtfpfaaibgaejjaaX
attribute [local go_sem] max2_int min2_int max_two min_two max_three min_three max_four min_four   -- for this text's walks alone
set_option linter.unusedVariables false
set_option linter.unusedSimpArgs false

abbrev rR6 := @Kd.R_reads'
/-! ### laws_FnStairThree: function 6 -/
mutual
def laws_FnStairThree.j0 : Nat → List Int → List Int → Bool → Option (Bool)
  | 0, _, _, _ => none
  | k + 1, x0, x1, x17 => if x17 = true then (some true) else ((spec_DrawStairLink.f k x0).bind fun bt415 => ((spec_DrawStairLink.f k x1).bind fun bt421 => ((impl_StairLink.f k bt415.1 bt415.2).bind fun t427 => ((spec_StairLink.f k bt415.1 bt415.2).bind fun t430 => ((laws_wkSteps.f k t427 t430).bind fun t433 => (if t433 = true then ((impl_StairOk.f k bt415.1).bind fun t434 => (if t434 = true then ((impl_StairOk.f k bt415.2).bind fun t435 => (if t435 = true then ((impl_StairOk.f k bt421.1).bind fun t436 => (laws_FnStairThree.j1 k bt415.1 bt415.2 bt421.1 t427 (!t436))) else (laws_FnStairThree.j1 k bt415.1 bt415.2 bt421.1 t427 true))) else (laws_FnStairThree.j1 k bt415.1 bt415.2 bt421.1 t427 true))) else (laws_FnStairThree.j1 k bt415.1 bt415.2 bt421.1 t427 true)))))))
def laws_FnStairThree.j1 : Nat → List (S36) → List (S36) → List (S36) → List (S36) → Bool → Option (Bool)
  | 0, _, _, _, _, _ => none
  | k + 1, x5, x6, x7, x9, x51 => if x51 = true then ((spec_StairLink.f k x5 x6).bind fun t437 => ((laws_wkSteps.f k x9 t437).bind fun t440 => (some t440))) else ((impl_StairLink.f k x9 x7).bind fun t441 => ((impl_StairLink.f k x6 x7).bind fun t444 => ((impl_StairLink.f k x5 t444).bind fun t447 => ((laws_wkSteps.f k t441 t447).bind fun t450 => (some t450)))))
end
def laws_FnStairThree.f (k : Nat) (l0 : List Int) (l1 : List Int) : Option (Bool) := if (l0.length : Int) > 1048576 then (laws_FnStairThree.j0 k l0 l1 true) else (laws_FnStairThree.j0 k l0 l1 (decide ((l1.length : Int) > 1048576)))
theorem laws_FnStairThree.mono_l : ∀ k, (∀ y0 y1 y2, LeO (laws_FnStairThree.j0 k y0 y1 y2) (laws_FnStairThree.j0 (k + 1) y0 y1 y2)) ∧ (∀ y0 y1 y2 y3 y4, LeO (laws_FnStairThree.j1 k y0 y1 y2 y3 y4) (laws_FnStairThree.j1 (k + 1) y0 y1 y2 y3 y4))
  | 0 => ⟨fun _ _ _ r h => by simp [laws_FnStairThree.j0] at h, fun _ _ _ _ _ r h => by simp [laws_FnStairThree.j1] at h⟩
  | k + 1 => by
    obtain ⟨ih0, ih1⟩ := laws_FnStairThree.mono_l k
    refine ⟨?_, ?_⟩
    · intro y0 y1 y2
      unfold laws_FnStairThree.j0
      repeat' first | (with_reducible first | exact ih0 _ _ _ | exact ih1 _ _ _ _ _ | exact impl_StairLink.mono _ _ _ | exact impl_StairOk.mono _ _ | exact laws_wkSteps.mono _ _ _ | exact spec_DrawStairLink.mono _ _ | exact spec_StairLink.mono _ _ _ | exact LeO.refl _ | exact LeO.none _ | refine LeO.ite ?_ ?_ | refine LeO.bind ?_ (fun _ => ?_)) | exact ih0 _ _ _ | exact ih1 _ _ _ _ _ | exact impl_StairLink.mono _ _ _ | exact impl_StairOk.mono _ _ | exact laws_wkSteps.mono _ _ _ | exact spec_DrawStairLink.mono _ _ | exact spec_StairLink.mono _ _ _ | exact LeO.none _ | refine LeO.ite ?_ ?_ | refine LeO.bind ?_ (fun _ => ?_)
    · intro y0 y1 y2 y3 y4
      unfold laws_FnStairThree.j1
      repeat' first | (with_reducible first | exact ih0 _ _ _ | exact ih1 _ _ _ _ _ | exact impl_StairLink.mono _ _ _ | exact impl_StairOk.mono _ _ | exact laws_wkSteps.mono _ _ _ | exact spec_DrawStairLink.mono _ _ | exact spec_StairLink.mono _ _ _ | exact LeO.refl _ | exact LeO.none _ | refine LeO.ite ?_ ?_ | refine LeO.bind ?_ (fun _ => ?_)) | exact ih0 _ _ _ | exact ih1 _ _ _ _ _ | exact impl_StairLink.mono _ _ _ | exact impl_StairOk.mono _ _ | exact laws_wkSteps.mono _ _ _ | exact spec_DrawStairLink.mono _ _ | exact spec_StairLink.mono _ _ _ | exact LeO.none _ | refine LeO.ite ?_ ?_ | refine LeO.bind ?_ (fun _ => ?_)
theorem laws_FnStairThree.mono : ∀ a0 a1 k, LeO (laws_FnStairThree.f k a0 a1) (laws_FnStairThree.f (k + 1) a0 a1) := by
  intro a0 a1 k
  obtain ⟨ih0, ih1⟩ := laws_FnStairThree.mono_l k
  unfold laws_FnStairThree.f
  repeat' first | (with_reducible first | exact ih0 _ _ _ | exact ih1 _ _ _ _ _ | exact impl_StairLink.mono _ _ _ | exact impl_StairOk.mono _ _ | exact laws_wkSteps.mono _ _ _ | exact spec_DrawStairLink.mono _ _ | exact spec_StairLink.mono _ _ _ | exact LeO.refl _ | exact LeO.none _ | refine LeO.ite ?_ ?_ | refine LeO.bind ?_ (fun _ => ?_)) | exact ih0 _ _ _ | exact ih1 _ _ _ _ _ | exact impl_StairLink.mono _ _ _ | exact impl_StairOk.mono _ _ | exact laws_wkSteps.mono _ _ _ | exact spec_DrawStairLink.mono _ _ | exact spec_StairLink.mono _ _ _ | exact LeO.none _ | refine LeO.ite ?_ ?_ | refine LeO.bind ?_ (fun _ => ?_)
set_option maxHeartbeats 200000000 in
set_option maxRecDepth 100000 in
theorem laws_FnStairThree.calls (k : Nat) (A0 : Option Addr) (c0 : Nat) (l0 : List Int) (A1 : Option Addr) (c1 : Nat) (l1 : List Int) (r : Bool) (w : World) (hr0 : Kd.C (Kd.int .u8) w A0 l0.length l0) (hc0 : l0.length ≤ c0) (hr1 : Kd.C (Kd.int .u8) w A1 l1.length l1) (hc1 : l1.length ≤ c1) (h : laws_FnStairThree.f k l0 l1 = some r) :
    Calls Try.prog 6 #[.slice A0 l0.length c0, .slice A1 l1.length c1] w fun e w' => e = .returned (.bool r) ∧ Below w.heap.size w w' := by
  have HR0 := Aside0.mk hr0
  have HC0 := Aside0.mk hc0
  clear hr0 hc0
  have HR1 := Aside0.mk hr1
  have HC1 := Aside0.mk hc1
  clear hr1 hc1
  have HB := Aside0.mk (Below.refl w.heap.size w)
  have H : (if (l0.length : Int) > 1048576 then (laws_FnStairThree.j0 k l0 l1 true) else (laws_FnStairThree.j0 k l0 l1 (decide ((l1.length : Int) > 1048576)))) = some r := h
  clear h
  have HC3 := Aside0.mk H
  clear H
  go_enter Try.func6, Try.ntmps6
  go_upto_region 1 with (fail)
  go_cut [17] (fun v17 wc => ∃ (kq : Nat) (x17_2 : Bool), v17 = .bool x17_2 ∧ Aside0 (laws_FnStairThree.j0 kq l0 l1 x17_2 = some r) ∧ Aside0 (kq ≤ k) ∧ Aside0 (Below w.heap.size w wc))
  case first =>
   have H := HC3.out
   clear HC3
   by_cases c4 : (l0.length : Int) > 1048576
   ·rw [if_pos c4] at H
    have c4b0 : decide (1048576 < (l0.length : Int)) = true := decide_eq_true c4
    have c4b1 : decide (1048576 < l0.length) = true := decide_eq_true (by omega)
    clear c4
    (first | rw [c4b0] | (simp only [i64_w, i32_w]; rw [c4b0]) | skip)
    have H' := Aside0.mk H
    clear H
    go_wp2
    go_meet
    case rel => exact ⟨_, (true), ns_, H', ⟨by first | omega | exact Nat.le_refl _⟩, ⟨ne_ HB.out⟩⟩
   rw [if_neg c4] at H
   have c4b0 : decide (1048576 < (l0.length : Int)) = false := decide_eq_false c4
   have c4b1 : decide (1048576 < l0.length) = false := decide_eq_false (by omega)
   clear c4
   (first | rw [c4b0] | (simp only [i64_w, i32_w]; rw [c4b0]) | skip)
   have H' := Aside0.mk H
   clear H
   go_wp2
   go_meet
   case rel => exact ⟨_, (decide ((l1.length : Int) > 1048576)), ns_, H', ⟨by first | omega | exact Nat.le_refl _⟩, ⟨ne_ HB.out⟩⟩
  case rest =>
   clear HC3
   try clear c1
   obtain ⟨kq, x17_2, rfl, HA, HJ2, HB⟩ := hcut
   cases kq with
   | zero => exact absurd HA.out (by simp [laws_FnStairThree.j0])
   | succ kj2 =>
    have H := HA.out
    clear HA
    simp only [laws_FnStairThree.j0] at H
    by_cases c5 : x17_2 = true
    ·subst c5
     have H1 : (some true) = some r := by rw [if_pos rfl] at H; exact H
     clear H
     have H := H1
     clear H1
     obtain rfl := Option.some.inj H
     go_wp2
     go_ret
     exact ⟨nw_, ne_ HB.out⟩
    replace c5 := Bool.eq_false_iff.mpr c5
    subst c5
    have H1 : ((spec_DrawStairLink.f kj2 l0).bind fun bt415 => ((spec_DrawStairLink.f kj2 l1).bind fun bt421 => ((impl_StairLink.f kj2 bt415.1 bt415.2).bind fun t427 => ((spec_StairLink.f kj2 bt415.1 bt415.2).bind fun t430 => ((laws_wkSteps.f kj2 t427 t430).bind fun t433 => (if t433 = true then ((impl_StairOk.f kj2 bt415.1).bind fun t434 => (if t434 = true then ((impl_StairOk.f kj2 bt415.2).bind fun t435 => (if t435 = true then ((impl_StairOk.f kj2 bt421.1).bind fun t436 => (laws_FnStairThree.j1 kj2 bt415.1 bt415.2 bt421.1 t427 (!t436))) else (laws_FnStairThree.j1 kj2 bt415.1 bt415.2 bt421.1 t427 true))) else (laws_FnStairThree.j1 kj2 bt415.1 bt415.2 bt421.1 t427 true))) else (laws_FnStairThree.j1 kj2 bt415.1 bt415.2 bt421.1 t427 true))))))) = some r := by rw [if_neg (show ¬ (false = true) by decide)] at H; exact H
    clear H
    have H := H1
    clear H1
    replace H := Option.bind_eq_some_iff.mp H
    obtain ⟨⟨t415, t416⟩, A60, H⟩ := H
    try dsimp only at H
    have A6 := Aside0.mk A60
    clear A60
    replace H := Option.bind_eq_some_iff.mp H
    obtain ⟨⟨t421, t422⟩, A70, H⟩ := H
    try dsimp only at H
    have A7 := Aside0.mk A70
    clear A70
    replace H := Option.bind_eq_some_iff.mp H
    obtain ⟨t427, A80, H⟩ := H
    try dsimp only at H
    have A8 := Aside0.mk A80
    clear A80
    have HC9 := Aside0.mk H
    clear H
    go_upto_region 6 with (first | ((with_reducible refine gate_callee (f := 24) rfl ?_); refine gl_ (some 20) Try.func24 #[.slice A0 l0.length c0] ?_; (with_reducible refine (spec_DrawStairLink.calls kj2 _ _ l0 t415 t416 _ ?side1 ?side2 A6.out).mono ?_); (case side1 => exact nc_ (Kd.C_below HR0.out HB.out)); (case side2 => exact HC0.out); rintro e w10 ⟨v417, v419, rfl, ho0, ho1, hb⟩; refine ⟨_, rfl, ?_⟩; have HO418 := Aside0.mk (Kd.R_lower ho0 (below_size (ne_ HB.out))); have HO420 := Aside0.mk (Kd.R_lower ho1 (below_size (ne_ HB.out))); replace HB := kB_ HB hb; (try clear hb); (try clear hb2); (try clear hk); (try clear hi); (try clear ho0); (try clear ho1)) | ((with_reducible refine gate_callee (f := 24) rfl ?_); refine gl_ (some 25) Try.func24 #[.slice A1 l1.length c1] ?_; (with_reducible refine (spec_DrawStairLink.calls kj2 _ _ l1 t421 t422 _ ?side1 ?side2 A7.out).mono ?_); (case side1 => exact nc_ (Kd.C_below HR1.out HB.out)); (case side2 => exact HC1.out); rintro e w11 ⟨v423, v425, rfl, ho0, ho1, hb⟩; refine ⟨_, rfl, ?_⟩; have HO424 := Aside0.mk (Kd.R_lower (Kd.R_new' (Kd.R_new' ho0 (Kd.R_lt (nr_ HO418.out))) (Kd.R_lt (nr_ HO420.out))) (below_size (ne_ HB.out))); have HO426 := Aside0.mk (Kd.R_lower (Kd.R_new' (Kd.R_new' ho1 (Kd.R_lt (nr_ HO418.out))) (Kd.R_lt (nr_ HO420.out))) (below_size (ne_ HB.out))); replace HO418 := Aside0.mk (Kd.R_mono (Kd.R_told (Kd.R_told (Kd.R_old (nr_ HO418.out) hb) (Kd.R_base ho0)) (Kd.R_base ho1)) (fun _ h_ => h_.1)); replace HO420 := Aside0.mk (Kd.R_mono (Kd.R_told (Kd.R_told (Kd.R_old (nr_ HO420.out) hb) (Kd.R_base ho0)) (Kd.R_base ho1)) (fun _ h_ => h_.1)); replace HB := kB_ HB hb; (try clear hb); (try clear hb2); (try clear hk); (try clear hi); (try clear ho0); (try clear ho1); obtain ⟨Ao12, co12, eo12⟩ := Kd.R_slice HO418.out; subst eo12; obtain ⟨Ao13, co13, eo13⟩ := Kd.R_slice HO420.out; subst eo13) | ((with_reducible refine gate_callee (f := 25) rfl ?_); refine gl_ (some 30) Try.func25 #[.slice Ao12 t415.length co12, .slice Ao13 t416.length co13] ?_; (with_reducible refine (impl_StairLink.calls kj2 _ _ t415 _ _ t416 t427 _ ?side1 ?side2 ?side3 ?side4 A8.out).mono ?_); (case side1 => exact nc_ (rR6 HO418.out).2.2); (case side2 => exact (rR6 HO418.out).2.1); (case side3 => exact nc_ (rR6 HO420.out).2.2); (case side4 => exact (rR6 HO420.out).2.1); rintro e w14 ⟨v428, rfl, ho0, hb⟩; refine ⟨_, rfl, ?_⟩; have HO429 := Aside0.mk (Kd.R_lower (Kd.R_new' (Kd.R_new' (Kd.R_new' (Kd.R_new' ho0 (Kd.R_lt (nr_ HO418.out))) (Kd.R_lt (nr_ HO420.out))) (Kd.R_lt (nr_ HO424.out))) (Kd.R_lt (nr_ HO426.out))) (below_size (ne_ HB.out))); replace HO418 := Aside0.mk (Kd.R_elder' (nr_ HO418.out) (Kd.R_base ho0) hb); replace HO420 := Aside0.mk (Kd.R_elder' (nr_ HO420.out) (Kd.R_base ho0) hb); replace HO424 := Aside0.mk (Kd.R_elder' (nr_ HO424.out) (Kd.R_base ho0) hb); replace HO426 := Aside0.mk (Kd.R_elder' (nr_ HO426.out) (Kd.R_base ho0) hb); replace HB := kB_ HB hb; (try clear hb); (try clear hb2); (try clear hk); (try clear hi); (try clear ho0)))
    (try simp only [Act.put, List.setIfInBounds_toArray, List.set_cons_zero, List.set_cons_succ])
    go_cut [51] (fun v51 wc => ∃ (kq : Nat) (x51_8 : Bool), v51 = .bool x51_8 ∧ Aside0 (laws_FnStairThree.j1 kq t415 t416 t421 t427 x51_8 = some r) ∧ Aside0 (kq ≤ kj2) ∧ Aside0 (Kd.R k36 36 wc w.heap.size (fun k_ => some k_ ≠ ((.slice Ao13 t416.length co13) : Value).ownBlock ∧ some k_ ≠ (v423 : Value).ownBlock ∧ some k_ ≠ (v428 : Value).ownBlock) (.slice Ao12 t415.length co12) t415) ∧ Aside0 (Kd.R k36 36 wc w.heap.size (fun k_ => some k_ ≠ ((.slice Ao12 t415.length co12) : Value).ownBlock ∧ some k_ ≠ (v423 : Value).ownBlock ∧ some k_ ≠ (v428 : Value).ownBlock) (.slice Ao13 t416.length co13) t416) ∧ Aside0 (Kd.R k36 36 wc w.heap.size (fun k_ => some k_ ≠ ((.slice Ao12 t415.length co12) : Value).ownBlock ∧ some k_ ≠ ((.slice Ao13 t416.length co13) : Value).ownBlock ∧ some k_ ≠ (v428 : Value).ownBlock) v423 t421) ∧ Aside0 (Kd.R k36 36 wc w.heap.size (fun k_ => some k_ ≠ ((.slice Ao12 t415.length co12) : Value).ownBlock ∧ some k_ ≠ ((.slice Ao13 t416.length co13) : Value).ownBlock ∧ some k_ ≠ (v423 : Value).ownBlock) v428 t427) ∧ Aside0 (Below w.heap.size w wc))
    case first =>
     have H := HC9.out
     clear HC9
     replace H := Option.bind_eq_some_iff.mp H
     obtain ⟨t430, A150, H⟩ := H
     try dsimp only at H
     have A15 := Aside0.mk A150
     clear A150
     replace H := Option.bind_eq_some_iff.mp H
     obtain ⟨t433, A160, H⟩ := H
     try dsimp only at H
     have A16 := Aside0.mk A160
     clear A160
     by_cases c17 : t433 = true
     rotate_left
     ·replace c17 := Bool.eq_false_iff.mpr c17
      subst c17
      have H1 : (laws_FnStairThree.j1 kj2 t415 t416 t421 t427 true) = some r := by rw [if_neg (show ¬ (false = true) by decide)] at H; exact H
      clear H
      have H := H1
      clear H1
      have H' := Aside0.mk H
      clear H
      go_wp2_with (first | ((with_reducible refine gate_callee (f := 26) rfl ?_); refine gl_ (some 34) Try.func26 #[.slice Ao12 t415.length co12, .slice Ao13 t416.length co13] ?_; (with_reducible refine (spec_StairLink.calls kj2 _ _ t415 _ _ t416 t430 _ ?side1 ?side2 ?side3 ?side4 A15.out).mono ?_); (case side1 => exact nc_ (rR6 HO418.out).2.2); (case side2 => exact (rR6 HO418.out).2.1); (case side3 => exact nc_ (rR6 HO420.out).2.2); (case side4 => exact (rR6 HO420.out).2.1); rintro e w39 ⟨v431, rfl, ho0, hb⟩; refine ⟨_, rfl, ?_⟩; have HO432 := Aside0.mk (Kd.R_lower (Kd.R_new' (Kd.R_new' (Kd.R_new' (Kd.R_new' (Kd.R_new' ho0 (Kd.R_lt (nr_ HO418.out))) (Kd.R_lt (nr_ HO420.out))) (Kd.R_lt (nr_ HO424.out))) (Kd.R_lt (nr_ HO426.out))) (Kd.R_lt (nr_ HO429.out))) (below_size (ne_ HB.out))); replace HO418 := Aside0.mk (Kd.R_elder' (nr_ HO418.out) (Kd.R_base ho0) hb); replace HO420 := Aside0.mk (Kd.R_elder' (nr_ HO420.out) (Kd.R_base ho0) hb); replace HO424 := Aside0.mk (Kd.R_elder' (nr_ HO424.out) (Kd.R_base ho0) hb); replace HO426 := Aside0.mk (Kd.R_elder' (nr_ HO426.out) (Kd.R_base ho0) hb); replace HO429 := Aside0.mk (Kd.R_elder' (nr_ HO429.out) (Kd.R_base ho0) hb); replace HB := kB_ HB hb; (try clear hb); (try clear hb2); (try clear hk); (try clear hi); (try clear ho0); obtain ⟨Ao40, co40, eo40⟩ := Kd.R_slice HO429.out; subst eo40; obtain ⟨Ao41, co41, eo41⟩ := Kd.R_slice HO432.out; subst eo41) | ((with_reducible refine gate_callee (f := 21) rfl ?_); refine gl_ (some 35) Try.func21 #[.slice Ao40 t427.length co40, .slice Ao41 t430.length co41] ?_; (with_reducible refine (laws_wkSteps.calls kj2 _ _ t427 _ _ t430 false _ ?side1 ?side2 ?side3 ?side4 A16.out).mono ?_); (case side1 => exact nc_ (rR6 HO429.out).2.2); (case side2 => exact (rR6 HO429.out).2.1); (case side3 => exact nc_ (rR6 HO432.out).2.2); (case side4 => exact (rR6 HO432.out).2.1); rintro e w' ⟨rfl, ⟨nd, rfl⟩⟩; refine ⟨_, rfl, ?_⟩))
      go_meet
      case rel => exact ⟨_, (true), ns_, H', ⟨by have := HJ2.out; first | omega | exact Nat.le_refl _⟩, ⟨by (with_reducible repeat (first | apply Kd.R_alloc | apply Kd.R_drewN | apply Kd.R_drew)); exact Kd.R_mono HO418.out (fun _ hk => by first | exact ⟨hk.1.1.1.1, ⟨hk.1.1.1.2, hk.1.2⟩⟩ | trivial | simp_all)⟩, ⟨by (with_reducible repeat (first | apply Kd.R_alloc | apply Kd.R_drewN | apply Kd.R_drew)); exact Kd.R_mono HO420.out (fun _ hk => by first | exact ⟨hk.1.1.1.1, ⟨hk.1.1.1.2, hk.1.2⟩⟩ | trivial | simp_all)⟩, ⟨by (with_reducible repeat (first | apply Kd.R_alloc | apply Kd.R_drewN | apply Kd.R_drew)); exact Kd.R_mono HO424.out (fun _ hk => by first | exact ⟨hk.1.1.1.2, ⟨hk.1.1.2, hk.1.2⟩⟩ | trivial | simp_all)⟩, ⟨by (with_reducible repeat (first | apply Kd.R_alloc | apply Kd.R_drewN | apply Kd.R_drew)); exact Kd.R_mono HO429.out (fun _ hk => by first | exact ⟨hk.1.1.1.1.2, ⟨hk.1.1.1.2, hk.1.1.2⟩⟩ | trivial | simp_all)⟩, ⟨ne_ HB.out⟩⟩
     subst c17
     rw [if_pos rfl] at H
     replace H := Option.bind_eq_some_iff.mp H
     obtain ⟨t434, A180, H⟩ := H
     try dsimp only at H
     have A18 := Aside0.mk A180
     clear A180
     by_cases c19 : t434 = true
     rotate_left
     ·replace c19 := Bool.eq_false_iff.mpr c19
      subst c19
      have H1 : (laws_FnStairThree.j1 kj2 t415 t416 t421 t427 true) = some r := by rw [if_neg (show ¬ (false = true) by decide)] at H; exact H
      clear H
      have H := H1
      clear H1
      have H' := Aside0.mk H
      clear H
      go_wp2_with (first | ((with_reducible refine gate_callee (f := 26) rfl ?_); refine gl_ (some 34) Try.func26 #[.slice Ao12 t415.length co12, .slice Ao13 t416.length co13] ?_; (with_reducible refine (spec_StairLink.calls kj2 _ _ t415 _ _ t416 t430 _ ?side1 ?side2 ?side3 ?side4 A15.out).mono ?_); (case side1 => exact nc_ (rR6 HO418.out).2.2); (case side2 => exact (rR6 HO418.out).2.1); (case side3 => exact nc_ (rR6 HO420.out).2.2); (case side4 => exact (rR6 HO420.out).2.1); rintro e w35 ⟨v431, rfl, ho0, hb⟩; refine ⟨_, rfl, ?_⟩; have HO432 := Aside0.mk (Kd.R_lower (Kd.R_new' (Kd.R_new' (Kd.R_new' (Kd.R_new' (Kd.R_new' ho0 (Kd.R_lt (nr_ HO418.out))) (Kd.R_lt (nr_ HO420.out))) (Kd.R_lt (nr_ HO424.out))) (Kd.R_lt (nr_ HO426.out))) (Kd.R_lt (nr_ HO429.out))) (below_size (ne_ HB.out))); replace HO418 := Aside0.mk (Kd.R_elder' (nr_ HO418.out) (Kd.R_base ho0) hb); replace HO420 := Aside0.mk (Kd.R_elder' (nr_ HO420.out) (Kd.R_base ho0) hb); replace HO424 := Aside0.mk (Kd.R_elder' (nr_ HO424.out) (Kd.R_base ho0) hb); replace HO426 := Aside0.mk (Kd.R_elder' (nr_ HO426.out) (Kd.R_base ho0) hb); replace HO429 := Aside0.mk (Kd.R_elder' (nr_ HO429.out) (Kd.R_base ho0) hb); replace HB := kB_ HB hb; (try clear hb); (try clear hb2); (try clear hk); (try clear hi); (try clear ho0); obtain ⟨Ao36, co36, eo36⟩ := Kd.R_slice HO429.out; subst eo36; obtain ⟨Ao37, co37, eo37⟩ := Kd.R_slice HO432.out; subst eo37) | ((with_reducible refine gate_callee (f := 21) rfl ?_); refine gl_ (some 35) Try.func21 #[.slice Ao36 t427.length co36, .slice Ao37 t430.length co37] ?_; (with_reducible refine (laws_wkSteps.calls kj2 _ _ t427 _ _ t430 true _ ?side1 ?side2 ?side3 ?side4 A16.out).mono ?_); (case side1 => exact nc_ (rR6 HO429.out).2.2); (case side2 => exact (rR6 HO429.out).2.1); (case side3 => exact nc_ (rR6 HO432.out).2.2); (case side4 => exact (rR6 HO432.out).2.1); rintro e w' ⟨rfl, ⟨nd, rfl⟩⟩; refine ⟨_, rfl, ?_⟩) | (go_at_call 23; (with_reducible refine (impl_StairOk.calls kj2 _ _ t415 false _ ?side1 ?side2 A18.out).mono ?_); (case side1 => exact nc_ (rR6 HO418.out).2.2); (case side2 => exact (rR6 HO418.out).2.1); rintro e w38 ⟨rfl, hb⟩; replace HO418 := kR_ HO418 hb; replace HO420 := kR_ HO420 hb; replace HO424 := kR_ HO424 hb; replace HO426 := kR_ HO426 hb; replace HO429 := kR_ HO429 hb; replace HO432 := kR_ HO432 hb; replace HB := kB_ HB hb; (try clear hb); (try clear hb2); (try clear hk); (try clear hi)))
      go_meet
      case rel => exact ⟨_, (true), ns_, H', ⟨by have := HJ2.out; first | omega | exact Nat.le_refl _⟩, ⟨by (with_reducible repeat (first | apply Kd.R_alloc | apply Kd.R_drewN | apply Kd.R_drew)); exact Kd.R_mono HO418.out (fun _ hk => by first | exact ⟨hk.1.1.1.1, ⟨hk.1.1.1.2, hk.1.2⟩⟩ | trivial | simp_all)⟩, ⟨by (with_reducible repeat (first | apply Kd.R_alloc | apply Kd.R_drewN | apply Kd.R_drew)); exact Kd.R_mono HO420.out (fun _ hk => by first | exact ⟨hk.1.1.1.1, ⟨hk.1.1.1.2, hk.1.2⟩⟩ | trivial | simp_all)⟩, ⟨by (with_reducible repeat (first | apply Kd.R_alloc | apply Kd.R_drewN | apply Kd.R_drew)); exact Kd.R_mono HO424.out (fun _ hk => by first | exact ⟨hk.1.1.1.2, ⟨hk.1.1.2, hk.1.2⟩⟩ | trivial | simp_all)⟩, ⟨by (with_reducible repeat (first | apply Kd.R_alloc | apply Kd.R_drewN | apply Kd.R_drew)); exact Kd.R_mono HO429.out (fun _ hk => by first | exact ⟨hk.1.1.1.1.2, ⟨hk.1.1.1.2, hk.1.1.2⟩⟩ | trivial | simp_all)⟩, ⟨ne_ HB.out⟩⟩
     subst c19
     rw [if_pos rfl] at H
     replace H := Option.bind_eq_some_iff.mp H
     obtain ⟨t435, A200, H⟩ := H
     try dsimp only at H
     have A20 := Aside0.mk A200
     clear A200
     by_cases c21 : t435 = true
     rotate_left
     ·replace c21 := Bool.eq_false_iff.mpr c21
      subst c21
      have H1 : (laws_FnStairThree.j1 kj2 t415 t416 t421 t427 true) = some r := by rw [if_neg (show ¬ (false = true) by decide)] at H; exact H
      clear H
      have H := H1
      clear H1
      have H' := Aside0.mk H
      clear H
      go_wp2_with (first | ((with_reducible refine gate_callee (f := 26) rfl ?_); refine gl_ (some 34) Try.func26 #[.slice Ao12 t415.length co12, .slice Ao13 t416.length co13] ?_; (with_reducible refine (spec_StairLink.calls kj2 _ _ t415 _ _ t416 t430 _ ?side1 ?side2 ?side3 ?side4 A15.out).mono ?_); (case side1 => exact nc_ (rR6 HO418.out).2.2); (case side2 => exact (rR6 HO418.out).2.1); (case side3 => exact nc_ (rR6 HO420.out).2.2); (case side4 => exact (rR6 HO420.out).2.1); rintro e w30 ⟨v431, rfl, ho0, hb⟩; refine ⟨_, rfl, ?_⟩; have HO432 := Aside0.mk (Kd.R_lower (Kd.R_new' (Kd.R_new' (Kd.R_new' (Kd.R_new' (Kd.R_new' ho0 (Kd.R_lt (nr_ HO418.out))) (Kd.R_lt (nr_ HO420.out))) (Kd.R_lt (nr_ HO424.out))) (Kd.R_lt (nr_ HO426.out))) (Kd.R_lt (nr_ HO429.out))) (below_size (ne_ HB.out))); replace HO418 := Aside0.mk (Kd.R_elder' (nr_ HO418.out) (Kd.R_base ho0) hb); replace HO420 := Aside0.mk (Kd.R_elder' (nr_ HO420.out) (Kd.R_base ho0) hb); replace HO424 := Aside0.mk (Kd.R_elder' (nr_ HO424.out) (Kd.R_base ho0) hb); replace HO426 := Aside0.mk (Kd.R_elder' (nr_ HO426.out) (Kd.R_base ho0) hb); replace HO429 := Aside0.mk (Kd.R_elder' (nr_ HO429.out) (Kd.R_base ho0) hb); replace HB := kB_ HB hb; (try clear hb); (try clear hb2); (try clear hk); (try clear hi); (try clear ho0); obtain ⟨Ao31, co31, eo31⟩ := Kd.R_slice HO429.out; subst eo31; obtain ⟨Ao32, co32, eo32⟩ := Kd.R_slice HO432.out; subst eo32) | ((with_reducible refine gate_callee (f := 21) rfl ?_); refine gl_ (some 35) Try.func21 #[.slice Ao31 t427.length co31, .slice Ao32 t430.length co32] ?_; (with_reducible refine (laws_wkSteps.calls kj2 _ _ t427 _ _ t430 true _ ?side1 ?side2 ?side3 ?side4 A16.out).mono ?_); (case side1 => exact nc_ (rR6 HO429.out).2.2); (case side2 => exact (rR6 HO429.out).2.1); (case side3 => exact nc_ (rR6 HO432.out).2.2); (case side4 => exact (rR6 HO432.out).2.1); rintro e w' ⟨rfl, ⟨nd, rfl⟩⟩; refine ⟨_, rfl, ?_⟩) | (go_at_call 23; (with_reducible refine (impl_StairOk.calls kj2 _ _ t415 true _ ?side1 ?side2 A18.out).mono ?_); (case side1 => exact nc_ (rR6 HO418.out).2.2); (case side2 => exact (rR6 HO418.out).2.1); rintro e w33 ⟨rfl, hb⟩; replace HO418 := kR_ HO418 hb; replace HO420 := kR_ HO420 hb; replace HO424 := kR_ HO424 hb; replace HO426 := kR_ HO426 hb; replace HO429 := kR_ HO429 hb; replace HO432 := kR_ HO432 hb; replace HB := kB_ HB hb; (try clear hb); (try clear hb2); (try clear hk); (try clear hi)) | (go_at_call 23; (with_reducible refine (impl_StairOk.calls kj2 _ _ t416 false _ ?side1 ?side2 A20.out).mono ?_); (case side1 => exact nc_ (rR6 HO420.out).2.2); (case side2 => exact (rR6 HO420.out).2.1); rintro e w34 ⟨rfl, hb⟩; replace HO418 := kR_ HO418 hb; replace HO420 := kR_ HO420 hb; replace HO424 := kR_ HO424 hb; replace HO426 := kR_ HO426 hb; replace HO429 := kR_ HO429 hb; replace HO432 := kR_ HO432 hb; replace HB := kB_ HB hb; (try clear hb); (try clear hb2); (try clear hk); (try clear hi)))
      go_meet
      case rel => exact ⟨_, (true), ns_, H', ⟨by have := HJ2.out; first | omega | exact Nat.le_refl _⟩, ⟨by (with_reducible repeat (first | apply Kd.R_alloc | apply Kd.R_drewN | apply Kd.R_drew)); exact Kd.R_mono HO418.out (fun _ hk => by first | exact ⟨hk.1.1.1.1, ⟨hk.1.1.1.2, hk.1.2⟩⟩ | trivial | simp_all)⟩, ⟨by (with_reducible repeat (first | apply Kd.R_alloc | apply Kd.R_drewN | apply Kd.R_drew)); exact Kd.R_mono HO420.out (fun _ hk => by first | exact ⟨hk.1.1.1.1, ⟨hk.1.1.1.2, hk.1.2⟩⟩ | trivial | simp_all)⟩, ⟨by (with_reducible repeat (first | apply Kd.R_alloc | apply Kd.R_drewN | apply Kd.R_drew)); exact Kd.R_mono HO424.out (fun _ hk => by first | exact ⟨hk.1.1.1.2, ⟨hk.1.1.2, hk.1.2⟩⟩ | trivial | simp_all)⟩, ⟨by (with_reducible repeat (first | apply Kd.R_alloc | apply Kd.R_drewN | apply Kd.R_drew)); exact Kd.R_mono HO429.out (fun _ hk => by first | exact ⟨hk.1.1.1.1.2, ⟨hk.1.1.1.2, hk.1.1.2⟩⟩ | trivial | simp_all)⟩, ⟨ne_ HB.out⟩⟩
     subst c21
     rw [if_pos rfl] at H
     replace H := Option.bind_eq_some_iff.mp H
     obtain ⟨t436, A220, H⟩ := H
     replace H : (laws_FnStairThree.j1 kj2 t415 t416 t421 t427 (!t436)) = some r := H
     have A22 := Aside0.mk A220
     clear A220
     have H' := Aside0.mk H
     clear H
     go_wp2_with (first | ((with_reducible refine gate_callee (f := 26) rfl ?_); refine gl_ (some 34) Try.func26 #[.slice Ao12 t415.length co12, .slice Ao13 t416.length co13] ?_; (with_reducible refine (spec_StairLink.calls kj2 _ _ t415 _ _ t416 t430 _ ?side1 ?side2 ?side3 ?side4 A15.out).mono ?_); (case side1 => exact nc_ (rR6 HO418.out).2.2); (case side2 => exact (rR6 HO418.out).2.1); (case side3 => exact nc_ (rR6 HO420.out).2.2); (case side4 => exact (rR6 HO420.out).2.1); rintro e w23 ⟨v431, rfl, ho0, hb⟩; refine ⟨_, rfl, ?_⟩; have HO432 := Aside0.mk (Kd.R_lower (Kd.R_new' (Kd.R_new' (Kd.R_new' (Kd.R_new' (Kd.R_new' ho0 (Kd.R_lt (nr_ HO418.out))) (Kd.R_lt (nr_ HO420.out))) (Kd.R_lt (nr_ HO424.out))) (Kd.R_lt (nr_ HO426.out))) (Kd.R_lt (nr_ HO429.out))) (below_size (ne_ HB.out))); replace HO418 := Aside0.mk (Kd.R_elder' (nr_ HO418.out) (Kd.R_base ho0) hb); replace HO420 := Aside0.mk (Kd.R_elder' (nr_ HO420.out) (Kd.R_base ho0) hb); replace HO424 := Aside0.mk (Kd.R_elder' (nr_ HO424.out) (Kd.R_base ho0) hb); replace HO426 := Aside0.mk (Kd.R_elder' (nr_ HO426.out) (Kd.R_base ho0) hb); replace HO429 := Aside0.mk (Kd.R_elder' (nr_ HO429.out) (Kd.R_base ho0) hb); replace HB := kB_ HB hb; (try clear hb); (try clear hb2); (try clear hk); (try clear hi); (try clear ho0); obtain ⟨Ao24, co24, eo24⟩ := Kd.R_slice HO429.out; subst eo24; obtain ⟨Ao25, co25, eo25⟩ := Kd.R_slice HO432.out; subst eo25) | ((with_reducible refine gate_callee (f := 21) rfl ?_); refine gl_ (some 35) Try.func21 #[.slice Ao24 t427.length co24, .slice Ao25 t430.length co25] ?_; (with_reducible refine (laws_wkSteps.calls kj2 _ _ t427 _ _ t430 true _ ?side1 ?side2 ?side3 ?side4 A16.out).mono ?_); (case side1 => exact nc_ (rR6 HO429.out).2.2); (case side2 => exact (rR6 HO429.out).2.1); (case side3 => exact nc_ (rR6 HO432.out).2.2); (case side4 => exact (rR6 HO432.out).2.1); rintro e w' ⟨rfl, ⟨nd, rfl⟩⟩; refine ⟨_, rfl, ?_⟩) | (go_at_call 23; (with_reducible refine (impl_StairOk.calls kj2 _ _ t415 true _ ?side1 ?side2 A18.out).mono ?_); (case side1 => exact nc_ (rR6 HO418.out).2.2); (case side2 => exact (rR6 HO418.out).2.1); rintro e w26 ⟨rfl, hb⟩; replace HO418 := kR_ HO418 hb; replace HO420 := kR_ HO420 hb; replace HO424 := kR_ HO424 hb; replace HO426 := kR_ HO426 hb; replace HO429 := kR_ HO429 hb; replace HO432 := kR_ HO432 hb; replace HB := kB_ HB hb; (try clear hb); (try clear hb2); (try clear hk); (try clear hi)) | (go_at_call 23; (with_reducible refine (impl_StairOk.calls kj2 _ _ t416 true _ ?side1 ?side2 A20.out).mono ?_); (case side1 => exact nc_ (rR6 HO420.out).2.2); (case side2 => exact (rR6 HO420.out).2.1); rintro e w27 ⟨rfl, hb⟩; replace HO418 := kR_ HO418 hb; replace HO420 := kR_ HO420 hb; replace HO424 := kR_ HO424 hb; replace HO426 := kR_ HO426 hb; replace HO429 := kR_ HO429 hb; replace HO432 := kR_ HO432 hb; replace HB := kB_ HB hb; (try clear hb); (try clear hb2); (try clear hk); (try clear hi); obtain ⟨Ao28, co28, eo28⟩ := Kd.R_slice HO424.out; subst eo28) | (go_at_call 23; (with_reducible refine (impl_StairOk.calls kj2 _ _ t421 t436 _ ?side1 ?side2 A22.out).mono ?_); (case side1 => exact nc_ (rR6 HO424.out).2.2); (case side2 => exact (rR6 HO424.out).2.1); rintro e w29 ⟨rfl, hb⟩; replace HO418 := kR_ HO418 hb; replace HO420 := kR_ HO420 hb; replace HO424 := kR_ HO424 hb; replace HO426 := kR_ HO426 hb; replace HO429 := kR_ HO429 hb; replace HO432 := kR_ HO432 hb; replace HB := kB_ HB hb; (try clear hb); (try clear hb2); (try clear hk); (try clear hi)))
     go_meet
     case rel => exact ⟨_, (!t436), ns_, H', ⟨by have := HJ2.out; first | omega | exact Nat.le_refl _⟩, ⟨by (with_reducible repeat (first | apply Kd.R_alloc | apply Kd.R_drewN | apply Kd.R_drew)); exact Kd.R_mono HO418.out (fun _ hk => by first | exact ⟨hk.1.1.1.1, ⟨hk.1.1.1.2, hk.1.2⟩⟩ | trivial | simp_all)⟩, ⟨by (with_reducible repeat (first | apply Kd.R_alloc | apply Kd.R_drewN | apply Kd.R_drew)); exact Kd.R_mono HO420.out (fun _ hk => by first | exact ⟨hk.1.1.1.1, ⟨hk.1.1.1.2, hk.1.2⟩⟩ | trivial | simp_all)⟩, ⟨by (with_reducible repeat (first | apply Kd.R_alloc | apply Kd.R_drewN | apply Kd.R_drew)); exact Kd.R_mono HO424.out (fun _ hk => by first | exact ⟨hk.1.1.1.2, ⟨hk.1.1.2, hk.1.2⟩⟩ | trivial | simp_all)⟩, ⟨by (with_reducible repeat (first | apply Kd.R_alloc | apply Kd.R_drewN | apply Kd.R_drew)); exact Kd.R_mono HO429.out (fun _ hk => by first | exact ⟨hk.1.1.1.1.2, ⟨hk.1.1.1.2, hk.1.1.2⟩⟩ | trivial | simp_all)⟩, ⟨ne_ HB.out⟩⟩
    case rest =>
     clear HC9
     try clear c1
     try clear c5
     obtain ⟨kq, x51_8, rfl, HA, HJ8, HO_5, HO_6, HO_7, HO_9, HB⟩ := hcut
     cases kq with
     | zero => exact absurd HA.out (by simp [laws_FnStairThree.j1])
     | succ kj8 =>
      have H := HA.out
      clear HA
      simp only [laws_FnStairThree.j1] at H
      by_cases c42 : x51_8 = true
      ·subst c42
       rw [if_pos rfl] at H
       replace H := Option.bind_eq_some_iff.mp H
       obtain ⟨t437, A430, H⟩ := H
       replace H : ((laws_wkSteps.f kj8 t427 t437).bind fun t440 => (some t440)) = some r := H
       have A43 := Aside0.mk A430
       clear A430
       replace H := Option.bind_eq_some_iff.mp H
       obtain ⟨t440, A440, H⟩ := H
       replace H : (some t440) = some r := H
       have A44 := Aside0.mk A440
       clear A440
       obtain rfl := Option.some.inj H
       go_wp2_with (first | ((with_reducible refine gate_callee (f := 26) rfl ?_); refine gl_ (some 55) Try.func26 #[.slice Ao12 t415.length co12, .slice Ao13 t416.length co13] ?_; (with_reducible refine (spec_StairLink.calls kj8 _ _ t415 _ _ t416 t437 _ ?side1 ?side2 ?side3 ?side4 A43.out).mono ?_); (case side1 => exact nc_ (rR6 HO_5.out).2.2); (case side2 => exact (rR6 HO_5.out).2.1); (case side3 => exact nc_ (rR6 HO_6.out).2.2); (case side4 => exact (rR6 HO_6.out).2.1); rintro e w45 ⟨v438, rfl, ho0, hb⟩; refine ⟨_, rfl, ?_⟩; have HO439 := Aside0.mk (Kd.R_lower (Kd.R_new' (Kd.R_new' (Kd.R_new' (Kd.R_new' ho0 (Kd.R_lt (nr_ HO_5.out))) (Kd.R_lt (nr_ HO_6.out))) (Kd.R_lt (nr_ HO_7.out))) (Kd.R_lt (nr_ HO_9.out))) (below_size (ne_ HB.out))); replace HO_5 := Aside0.mk (Kd.R_elder' (nr_ HO_5.out) (Kd.R_base ho0) hb); replace HO_6 := Aside0.mk (Kd.R_elder' (nr_ HO_6.out) (Kd.R_base ho0) hb); replace HO_7 := Aside0.mk (Kd.R_elder' (nr_ HO_7.out) (Kd.R_base ho0) hb); replace HO_9 := Aside0.mk (Kd.R_elder' (nr_ HO_9.out) (Kd.R_base ho0) hb); replace HB := kB_ HB hb; (try clear hb); (try clear hb2); (try clear hk); (try clear hi); (try clear ho0); obtain ⟨Ao46, co46, eo46⟩ := Kd.R_slice HO_9.out; subst eo46; obtain ⟨Ao47, co47, eo47⟩ := Kd.R_slice HO439.out; subst eo47) | ((with_reducible refine gate_callee (f := 21) rfl ?_); refine gl_ (some 56) Try.func21 #[.slice Ao46 t427.length co46, .slice Ao47 t437.length co47] ?_; (with_reducible refine (laws_wkSteps.calls kj8 _ _ t427 _ _ t437 t440 _ ?side1 ?side2 ?side3 ?side4 A44.out).mono ?_); (case side1 => exact nc_ (rR6 HO_9.out).2.2); (case side2 => exact (rR6 HO_9.out).2.1); (case side3 => exact nc_ (rR6 HO439.out).2.2); (case side4 => exact (rR6 HO439.out).2.1); rintro e w' ⟨rfl, ⟨nd, rfl⟩⟩; refine ⟨_, rfl, ?_⟩))
       go_ret
       exact ⟨nw_, ne_ HB.out⟩
      replace c42 := Bool.eq_false_iff.mpr c42
      subst c42
      have H1 : ((impl_StairLink.f kj8 t427 t421).bind fun t441 => ((impl_StairLink.f kj8 t416 t421).bind fun t444 => ((impl_StairLink.f kj8 t415 t444).bind fun t447 => ((laws_wkSteps.f kj8 t441 t447).bind fun t450 => (some t450))))) = some r := by rw [if_neg (show ¬ (false = true) by decide)] at H; exact H
      clear H
      have H := H1
      clear H1
      replace H := Option.bind_eq_some_iff.mp H
      obtain ⟨t441, A480, H⟩ := H
      try dsimp only at H
      have A48 := Aside0.mk A480
      clear A480
      replace H := Option.bind_eq_some_iff.mp H
      obtain ⟨t444, A490, H⟩ := H
      try dsimp only at H
      have A49 := Aside0.mk A490
      clear A490
      replace H := Option.bind_eq_some_iff.mp H
      obtain ⟨t447, A500, H⟩ := H
      replace H : ((laws_wkSteps.f kj8 t441 t447).bind fun t450 => (some t450)) = some r := H
      have A50 := Aside0.mk A500
      clear A500
      replace H := Option.bind_eq_some_iff.mp H
      obtain ⟨t450, A510, H⟩ := H
      replace H : (some t450) = some r := H
      have A51 := Aside0.mk A510
      clear A510
      obtain rfl := Option.some.inj H
      obtain ⟨Ao52, co52, eo52⟩ := Kd.R_slice HO_9.out
      subst eo52
      obtain ⟨Ao53, co53, eo53⟩ := Kd.R_slice HO_7.out
      subst eo53
      go_wp2_with (first | ((with_reducible refine gate_callee (f := 25) rfl ?_); refine gl_ (some 59) Try.func25 #[.slice Ao52 t427.length co52, .slice Ao53 t421.length co53] ?_; (with_reducible refine (impl_StairLink.calls kj8 _ _ t427 _ _ t421 t441 _ ?side1 ?side2 ?side3 ?side4 A48.out).mono ?_); (case side1 => exact nc_ (rR6 HO_9.out).2.2); (case side2 => exact (rR6 HO_9.out).2.1); (case side3 => exact nc_ (rR6 HO_7.out).2.2); (case side4 => exact (rR6 HO_7.out).2.1); rintro e w54 ⟨v442, rfl, ho0, hb⟩; refine ⟨_, rfl, ?_⟩; have HO443 := Aside0.mk (Kd.R_lower (Kd.R_new' (Kd.R_new' (Kd.R_new' (Kd.R_new' ho0 (Kd.R_lt (nr_ HO_5.out))) (Kd.R_lt (nr_ HO_6.out))) (Kd.R_lt (nr_ HO_7.out))) (Kd.R_lt (nr_ HO_9.out))) (below_size (ne_ HB.out))); replace HO_5 := Aside0.mk (Kd.R_elder' (nr_ HO_5.out) (Kd.R_base ho0) hb); replace HO_6 := Aside0.mk (Kd.R_elder' (nr_ HO_6.out) (Kd.R_base ho0) hb); replace HO_7 := Aside0.mk (Kd.R_elder' (nr_ HO_7.out) (Kd.R_base ho0) hb); replace HO_9 := Aside0.mk (Kd.R_elder' (nr_ HO_9.out) (Kd.R_base ho0) hb); replace HB := kB_ HB hb; (try clear hb); (try clear hb2); (try clear hk); (try clear hi); (try clear ho0)) | ((with_reducible refine gate_callee (f := 25) rfl ?_); refine gl_ (some 63) Try.func25 #[.slice Ao13 t416.length co13, .slice Ao53 t421.length co53] ?_; (with_reducible refine (impl_StairLink.calls kj8 _ _ t416 _ _ t421 t444 _ ?side1 ?side2 ?side3 ?side4 A49.out).mono ?_); (case side1 => exact nc_ (rR6 HO_6.out).2.2); (case side2 => exact (rR6 HO_6.out).2.1); (case side3 => exact nc_ (rR6 HO_7.out).2.2); (case side4 => exact (rR6 HO_7.out).2.1); rintro e w55 ⟨v445, rfl, ho0, hb⟩; refine ⟨_, rfl, ?_⟩; have HO446 := Aside0.mk (Kd.R_lower (Kd.R_new' (Kd.R_new' (Kd.R_new' (Kd.R_new' (Kd.R_new' ho0 (Kd.R_lt (nr_ HO_5.out))) (Kd.R_lt (nr_ HO_6.out))) (Kd.R_lt (nr_ HO_7.out))) (Kd.R_lt (nr_ HO_9.out))) (Kd.R_lt (nr_ HO443.out))) (below_size (ne_ HB.out))); replace HO_5 := Aside0.mk (Kd.R_elder' (nr_ HO_5.out) (Kd.R_base ho0) hb); replace HO_6 := Aside0.mk (Kd.R_elder' (nr_ HO_6.out) (Kd.R_base ho0) hb); replace HO_7 := Aside0.mk (Kd.R_elder' (nr_ HO_7.out) (Kd.R_base ho0) hb); replace HO_9 := Aside0.mk (Kd.R_elder' (nr_ HO_9.out) (Kd.R_base ho0) hb); replace HO443 := Aside0.mk (Kd.R_elder' (nr_ HO443.out) (Kd.R_base ho0) hb); replace HB := kB_ HB hb; (try clear hb); (try clear hb2); (try clear hk); (try clear hi); (try clear ho0); obtain ⟨Ao56, co56, eo56⟩ := Kd.R_slice HO446.out; subst eo56) | ((with_reducible refine gate_callee (f := 25) rfl ?_); refine gl_ (some 64) Try.func25 #[.slice Ao12 t415.length co12, .slice Ao56 t444.length co56] ?_; (with_reducible refine (impl_StairLink.calls kj8 _ _ t415 _ _ t444 t447 _ ?side1 ?side2 ?side3 ?side4 A50.out).mono ?_); (case side1 => exact nc_ (rR6 HO_5.out).2.2); (case side2 => exact (rR6 HO_5.out).2.1); (case side3 => exact nc_ (rR6 HO446.out).2.2); (case side4 => exact (rR6 HO446.out).2.1); rintro e w57 ⟨v448, rfl, ho0, hb⟩; refine ⟨_, rfl, ?_⟩; have HO449 := Aside0.mk (Kd.R_lower (Kd.R_new' (Kd.R_new' (Kd.R_new' (Kd.R_new' (Kd.R_new' (Kd.R_new' ho0 (Kd.R_lt (nr_ HO_5.out))) (Kd.R_lt (nr_ HO_6.out))) (Kd.R_lt (nr_ HO_7.out))) (Kd.R_lt (nr_ HO_9.out))) (Kd.R_lt (nr_ HO443.out))) (Kd.R_lt (nr_ HO446.out))) (below_size (ne_ HB.out))); replace HO_5 := Aside0.mk (Kd.R_elder' (nr_ HO_5.out) (Kd.R_base ho0) hb); replace HO_6 := Aside0.mk (Kd.R_elder' (nr_ HO_6.out) (Kd.R_base ho0) hb); replace HO_7 := Aside0.mk (Kd.R_elder' (nr_ HO_7.out) (Kd.R_base ho0) hb); replace HO_9 := Aside0.mk (Kd.R_elder' (nr_ HO_9.out) (Kd.R_base ho0) hb); replace HO443 := Aside0.mk (Kd.R_elder' (nr_ HO443.out) (Kd.R_base ho0) hb); replace HO446 := Aside0.mk (Kd.R_elder' (nr_ HO446.out) (Kd.R_base ho0) hb); replace HB := kB_ HB hb; (try clear hb); (try clear hb2); (try clear hk); (try clear hi); (try clear ho0); obtain ⟨Ao58, co58, eo58⟩ := Kd.R_slice HO443.out; subst eo58; obtain ⟨Ao59, co59, eo59⟩ := Kd.R_slice HO449.out; subst eo59) | ((with_reducible refine gate_callee (f := 21) rfl ?_); refine gl_ (some 65) Try.func21 #[.slice Ao58 t441.length co58, .slice Ao59 t447.length co59] ?_; (with_reducible refine (laws_wkSteps.calls kj8 _ _ t441 _ _ t447 t450 _ ?side1 ?side2 ?side3 ?side4 A51.out).mono ?_); (case side1 => exact nc_ (rR6 HO443.out).2.2); (case side2 => exact (rR6 HO443.out).2.1); (case side3 => exact nc_ (rR6 HO449.out).2.2); (case side4 => exact (rR6 HO449.out).2.1); rintro e w' ⟨rfl, ⟨nd, rfl⟩⟩; refine ⟨_, rfl, ?_⟩))
      go_ret
      exact ⟨nw_, ne_ HB.out⟩

/-- THE ONE PURE STATEMENT of laws_FnStairThree: yours. -/
def laws_FnStairThree.Pure : Prop := ∀ (l0 : List Int) (l1 : List Int), l0.length ≤ maxLen → l0.length * 1 ≤ 140737488351232 → (∀ x ∈ l0, (Lit.int .u8 x).wf = true) → l1.length ≤ maxLen → l1.length * 1 ≤ 140737488351232 → (∀ x ∈ l1, (Lit.int .u8 x).wf = true) → ∃ k, laws_FnStairThree.f k l0 l1 = some true
theorem laws_FnStairThree.walk (P : laws_FnStairThree.Pure) (a0 : Option Addr) (len0 cap0 : Nat) (z0 : List Int) (a1 : Option Addr) (len1 cap1 : Nat) (z1 : List Int) (w : World) (w0 : (a0 = none ∧ len0 = 0 ∧ cap0 = 0 ∧ z0 = []) ∨ ∃ x, a0 = some x ∧ len0 ≤ cap0 ∧ cap0 ≤ maxLen ∧ z0.length = cap0 ∧ (∀ i, i < z0.length → w.cell? (x.add i) = some (.int .u8 (z0.getD i 0))) ∧ ∀ n ∈ z0, (Lit.int .u8 n).wf = true) (y0 : len0 * 1 ≤ 140737488351232) (w1 : (a1 = none ∧ len1 = 0 ∧ cap1 = 0 ∧ z1 = []) ∨ ∃ x, a1 = some x ∧ len1 ≤ cap1 ∧ cap1 ≤ maxLen ∧ z1.length = cap1 ∧ (∀ i, i < z1.length → w.cell? (x.add i) = some (.int .u8 (z1.getD i 0))) ∧ ∀ n ∈ z1, (Lit.int .u8 n).wf = true) (y1 : len1 * 1 ≤ 140737488351232) :
    Calls Try.prog 6 #[.slice a0 len0 cap0, .slice a1 len1 cap1] w fun e w' => e = .returned (.bool true) ∧ Below w.heap.size w w' := by
  obtain ⟨l0, rfl, hr0, hm0, hw0, hc0⟩ := ReadsInt.ofRowC w0
  obtain ⟨l1, rfl, hr1, hm1, hw1, hc1⟩ := ReadsInt.ofRowC w1
  obtain ⟨k, h⟩ := P l0 l1 hm0 y0 hw0 hm1 y1 hw1
  refine (laws_FnStairThree.calls k _ _ l0 _ _ l1 true w (Kd.C_of_reads (d := (0 : Int)) (h1 := fun _ => rfl) hr0) hc0 (Kd.C_of_reads (d := (0 : Int)) (h1 := fun _ => rfl) hr1) hc1 h).mono ?_
  rintro e w' ⟨rfl, hd⟩
  exact ⟨rfl, hd⟩

end Go.Proofs.Ytfpfaaibgaejjaa.Print
