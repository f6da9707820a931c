-- Made by this session's own program (wip/patch_print.py, over the kit's print). Lean checks it.
import Derived.Test.YtfpfaaibgaejjaaPrint0
import Derived.Test.YtfpfaaibgaejjaaPrintB
import Derived.Test.YtfpfaaibgaejjaaPrintF13
import Derived.Test.YtfpfaaibgaejjaaPrintF14
import Derived.Test.YtfpfaaibgaejjaaPrintF17
import Derived.Test.YtfpfaaibgaejjaaPrintF19
namespace Go.Proofs.Ytfpfaaibgaejjaa.Print
open Go.RowKit Go.Proofs.YtfpfaaibgaejjaaW.PrintWords Go.Proofs.YtfpfaaibgaejjaaW.PrintLast Go.Proofs.YtfpfaaibgaejjaaW.PrintMore Go.Proofs.YtfpfaaibgaejjaaX
attribute [local go_sem] max2_int min2_int max_two min_two max_three min_three max_four min_four   -- for this text's walks alone
set_option linter.unusedVariables false
set_option linter.unusedSimpArgs false

abbrev rR4 := @Kd.R_reads'
/-! ### laws_FnExactStairOf: function 4 -/
mutual
def laws_FnExactStairOf.j0 : Nat → List (S49) → List (S36) → Bool → List (S36) → List (S36) → Bool → Bool → Option (Bool)
  | 0, _, _, _, _, _, _, _ => none
  | k + 1, x0, x4, x5, x6, x7, x8, x40 => if x40 = true then (some false) else ((laws_toStepS.f k x0).bind fun t237 => ((laws_eqStepS.f k x6 t237).bind fun t240 => (if t240 = true then ((laws_markStepS.f k x6 1).bind fun bt241 => (if bt241.1 < 0 then (laws_FnExactStairOf.j1 k x0 x4 x5 x7 true) else ((laws_eqStepS.f k x7 x4).bind fun t243 => (if t243 = true then (laws_FnExactStairOf.j1 k x0 x4 x5 x7 (x8 != x5)) else (laws_FnExactStairOf.j1 k x0 x4 x5 x7 true))))) else (some false))))
def laws_FnExactStairOf.j1 : Nat → List (S49) → List (S36) → Bool → List (S36) → Bool → Option (Bool)
  | 0, _, _, _, _, _ => none
  | k + 1, x0, x4, x5, x7, x61 => if x61 = true then (some false) else ((laws_markStepS.f k x7 1).bind fun bt244 => ((laws_heldStepS.f k bt244.2 1).bind fun t246 => (if t246 < 0 then (some false) else (if t246 = bt244.1 then ((laws_toStepS.f k x0).bind fun t247 => ((impl_StairOf.f k t247).bind fun bt250 => ((laws_eqStepS.f k bt250.1 x4).bind fun t254 => (if t254 = true then (laws_FnExactStairOf.j2 k bt244.2 bt244.1 (bt250.2 != x5)) else (laws_FnExactStairOf.j2 k bt244.2 bt244.1 true))))) else (some false)))))
def laws_FnExactStairOf.j2 : Nat → List (S36) → Int → Bool → Option (Bool)
  | 0, _, _, _ => none
  | k + 1, x7, x10, x87 => if x87 = true then (some false) else ((laws_heldStepS.f k x7 1).bind fun t255 => (if t255 < 0 then (some false) else (if t255 = x10 then (some true) else (some false))))
end
def laws_FnExactStairOf.f (k : Nat) (l0 : List (S49)) : Option (Bool) := (laws_szStepS.f l0 1048576).bind fun t221 => (if t221 < 0 then (some true) else ((laws_toStepS.f k l0).bind fun t222 => ((spec_StairOf.f k t222).bind fun bt225 => ((laws_toStepS.f k l0).bind fun t229 => ((impl_StairOf.f k t229).bind fun bt232 => ((laws_eqStepS.f k bt232.1 bt225.1).bind fun t236 => (if t236 = true then (laws_FnExactStairOf.j0 k l0 bt225.1 bt225.2 t229 bt232.1 bt232.2 (bt232.2 != bt225.2)) else (laws_FnExactStairOf.j0 k l0 bt225.1 bt225.2 t229 bt232.1 bt232.2 true))))))))
theorem laws_FnExactStairOf.mono_l : ∀ k, (∀ y0 y1 y2 y3 y4 y5 y6, LeO (laws_FnExactStairOf.j0 k y0 y1 y2 y3 y4 y5 y6) (laws_FnExactStairOf.j0 (k + 1) y0 y1 y2 y3 y4 y5 y6)) ∧ (∀ y0 y1 y2 y3 y4, LeO (laws_FnExactStairOf.j1 k y0 y1 y2 y3 y4) (laws_FnExactStairOf.j1 (k + 1) y0 y1 y2 y3 y4)) ∧ (∀ y0 y1 y2, LeO (laws_FnExactStairOf.j2 k y0 y1 y2) (laws_FnExactStairOf.j2 (k + 1) y0 y1 y2))
  | 0 => ⟨fun _ _ _ _ _ _ _ r h => by simp [laws_FnExactStairOf.j0] at h, fun _ _ _ _ _ r h => by simp [laws_FnExactStairOf.j1] at h, fun _ _ _ r h => by simp [laws_FnExactStairOf.j2] at h⟩
  | k + 1 => by
    obtain ⟨ih0, ih1, ih2⟩ := laws_FnExactStairOf.mono_l k
    refine ⟨?_, ?_, ?_⟩
    · intro y0 y1 y2 y3 y4 y5 y6
      unfold laws_FnExactStairOf.j0
      repeat' first | (with_reducible first | exact ih0 _ _ _ _ _ _ _ | exact ih1 _ _ _ _ _ | exact ih2 _ _ _ | exact impl_StairOf.mono _ _ | exact laws_eqStepS.mono _ _ _ | exact laws_heldStepS.mono _ _ _ | exact laws_markStepS.mono _ _ _ | exact laws_toStepS.mono _ _ | exact spec_StairOf.mono _ _ | exact LeO.refl _ | exact LeO.none _ | refine LeO.ite ?_ ?_ | refine LeO.bind ?_ (fun _ => ?_)) | exact ih0 _ _ _ _ _ _ _ | exact ih1 _ _ _ _ _ | exact ih2 _ _ _ | exact impl_StairOf.mono _ _ | exact laws_eqStepS.mono _ _ _ | exact laws_heldStepS.mono _ _ _ | exact laws_markStepS.mono _ _ _ | exact laws_toStepS.mono _ _ | exact spec_StairOf.mono _ _ | exact LeO.none _ | refine LeO.ite ?_ ?_ | refine LeO.bind ?_ (fun _ => ?_)
    · intro y0 y1 y2 y3 y4
      unfold laws_FnExactStairOf.j1
      repeat' first | (with_reducible first | exact ih0 _ _ _ _ _ _ _ | exact ih1 _ _ _ _ _ | exact ih2 _ _ _ | exact impl_StairOf.mono _ _ | exact laws_eqStepS.mono _ _ _ | exact laws_heldStepS.mono _ _ _ | exact laws_markStepS.mono _ _ _ | exact laws_toStepS.mono _ _ | exact spec_StairOf.mono _ _ | exact LeO.refl _ | exact LeO.none _ | refine LeO.ite ?_ ?_ | refine LeO.bind ?_ (fun _ => ?_)) | exact ih0 _ _ _ _ _ _ _ | exact ih1 _ _ _ _ _ | exact ih2 _ _ _ | exact impl_StairOf.mono _ _ | exact laws_eqStepS.mono _ _ _ | exact laws_heldStepS.mono _ _ _ | exact laws_markStepS.mono _ _ _ | exact laws_toStepS.mono _ _ | exact spec_StairOf.mono _ _ | exact LeO.none _ | refine LeO.ite ?_ ?_ | refine LeO.bind ?_ (fun _ => ?_)
    · intro y0 y1 y2
      unfold laws_FnExactStairOf.j2
      repeat' first | (with_reducible first | exact ih0 _ _ _ _ _ _ _ | exact ih1 _ _ _ _ _ | exact ih2 _ _ _ | exact impl_StairOf.mono _ _ | exact laws_eqStepS.mono _ _ _ | exact laws_heldStepS.mono _ _ _ | exact laws_markStepS.mono _ _ _ | exact laws_toStepS.mono _ _ | exact spec_StairOf.mono _ _ | exact LeO.refl _ | exact LeO.none _ | refine LeO.ite ?_ ?_ | refine LeO.bind ?_ (fun _ => ?_)) | exact ih0 _ _ _ _ _ _ _ | exact ih1 _ _ _ _ _ | exact ih2 _ _ _ | exact impl_StairOf.mono _ _ | exact laws_eqStepS.mono _ _ _ | exact laws_heldStepS.mono _ _ _ | exact laws_markStepS.mono _ _ _ | exact laws_toStepS.mono _ _ | exact spec_StairOf.mono _ _ | exact LeO.none _ | refine LeO.ite ?_ ?_ | refine LeO.bind ?_ (fun _ => ?_)
theorem laws_FnExactStairOf.mono : ∀ a0 k, LeO (laws_FnExactStairOf.f k a0) (laws_FnExactStairOf.f (k + 1) a0) := by
  intro a0 k
  obtain ⟨ih0, ih1, ih2⟩ := laws_FnExactStairOf.mono_l k
  unfold laws_FnExactStairOf.f
  repeat' first | (with_reducible first | exact ih0 _ _ _ _ _ _ _ | exact ih1 _ _ _ _ _ | exact ih2 _ _ _ | exact impl_StairOf.mono _ _ | exact laws_eqStepS.mono _ _ _ | exact laws_heldStepS.mono _ _ _ | exact laws_markStepS.mono _ _ _ | exact laws_toStepS.mono _ _ | exact spec_StairOf.mono _ _ | exact LeO.refl _ | exact LeO.none _ | refine LeO.ite ?_ ?_ | refine LeO.bind ?_ (fun _ => ?_)) | exact ih0 _ _ _ _ _ _ _ | exact ih1 _ _ _ _ _ | exact ih2 _ _ _ | exact impl_StairOf.mono _ _ | exact laws_eqStepS.mono _ _ _ | exact laws_heldStepS.mono _ _ _ | exact laws_markStepS.mono _ _ _ | exact laws_toStepS.mono _ _ | exact spec_StairOf.mono _ _ | exact LeO.none _ | refine LeO.ite ?_ ?_ | refine LeO.bind ?_ (fun _ => ?_)
set_option maxHeartbeats 200000000 in
set_option maxRecDepth 100000 in
theorem laws_FnExactStairOf.calls (k : Nat) (A0 : Option Addr) (c0 : Nat) (l0 : List (S49)) (r : Bool) (w : World) (hr0 : Kd.C k49 w A0 l0.length l0) (hc0 : l0.length ≤ c0) (h : laws_FnExactStairOf.f k l0 = some r) :
    Calls Try.prog 4 #[.slice A0 l0.length c0] w fun e w' => e = .returned (.bool r) ∧ Below w.heap.size w w' := by
  have HR0 := Aside0.mk hr0
  have HC0 := Aside0.mk hc0
  clear hr0 hc0
  have HB := Aside0.mk (Below.refl w.heap.size w)
  have H : ((laws_szStepS.f l0 1048576).bind fun t221 => (if t221 < 0 then (some true) else ((laws_toStepS.f k l0).bind fun t222 => ((spec_StairOf.f k t222).bind fun bt225 => ((laws_toStepS.f k l0).bind fun t229 => ((impl_StairOf.f k t229).bind fun bt232 => ((laws_eqStepS.f k bt232.1 bt225.1).bind fun t236 => (if t236 = true then (laws_FnExactStairOf.j0 k l0 bt225.1 bt225.2 t229 bt232.1 bt232.2 (bt232.2 != bt225.2)) else (laws_FnExactStairOf.j0 k l0 bt225.1 bt225.2 t229 bt232.1 bt232.2 true))))))))) = some r := h
  clear h
  replace H := Option.bind_eq_some_iff.mp H
  obtain ⟨t221, A20, H⟩ := H
  try dsimp only at H
  have A2 := Aside0.mk A20
  clear A20
  by_cases c3 : t221 < 0
  ·rw [if_pos c3] at H
   have c3b0 : decide (t221 < 0) = true := decide_eq_true c3
   clear c3
   obtain rfl := Option.some.inj H
   go_enter Try.func4, Try.ntmps4
   go_wp2_with (first | ((with_reducible refine gate_callee (f := 16) rfl ?_); refine gl_ (some 16) Try.func16 #[.slice A0 l0.length c0, .int .i64 1048576] ?_; (with_reducible refine (laws_szStepS.calls _ _ l0 1048576 t221 _ ?side1 ?side2 A2.out).mono ?_); (case side1 => repeat (first | exact HR0.out | (with_reducible refine Kd.C_alloc ?_ _) | (with_reducible refine Kd.C_drewN ?_ _) | (with_reducible refine Kd.C_drew ?_))); (case side2 => exact HC0.out); rintro e w' ⟨rfl, ⟨nd, rfl⟩⟩; refine ⟨_, rfl, ?_⟩))
   go_ret
   exact ⟨nw_, ne_ HB.out⟩
  rw [if_neg c3] at H
  have c3b0 : decide (t221 < 0) = false := decide_eq_false c3
  clear c3
  replace H := Option.bind_eq_some_iff.mp H
  obtain ⟨t222, A40, H⟩ := H
  try dsimp only at H
  have A4 := Aside0.mk A40
  clear A40
  replace H := Option.bind_eq_some_iff.mp H
  obtain ⟨⟨t225, t226⟩, A50, H⟩ := H
  try dsimp only at H
  have A5 := Aside0.mk A50
  clear A50
  replace H := Option.bind_eq_some_iff.mp H
  obtain ⟨t229, A60, H⟩ := H
  try dsimp only at H
  have A6 := Aside0.mk A60
  clear A60
  replace H := Option.bind_eq_some_iff.mp H
  obtain ⟨⟨t232, t233⟩, A70, H⟩ := H
  try dsimp only at H
  have A7 := Aside0.mk A70
  clear A70
  have HC8 := Aside0.mk H
  clear H
  go_enter Try.func4, Try.ntmps4
  go_upto_region 8 with (first | ((with_reducible refine gate_callee (f := 16) rfl ?_); refine gl_ (some 16) Try.func16 #[.slice A0 l0.length c0, .int .i64 1048576] ?_; (with_reducible refine (laws_szStepS.calls _ _ l0 1048576 t221 _ ?side1 ?side2 A2.out).mono ?_); (case side1 => repeat (first | exact HR0.out | (with_reducible refine Kd.C_alloc ?_ _) | (with_reducible refine Kd.C_drewN ?_ _) | (with_reducible refine Kd.C_drew ?_))); (case side2 => exact HC0.out); rintro e w' ⟨rfl, ⟨nd, rfl⟩⟩; refine ⟨_, rfl, ?_⟩) | ((with_reducible refine gate_callee (f := 18) rfl ?_); refine gl_ (some 21) Try.func18 #[.slice A0 l0.length c0] ?_; (with_reducible refine (laws_toStepS.calls k _ _ l0 t222 _ ?side1 ?side2 A4.out).mono ?_); (case side1 => repeat (first | exact HR0.out | (with_reducible refine Kd.C_alloc ?_ _) | (with_reducible refine Kd.C_drewN ?_ _) | (with_reducible refine Kd.C_drew ?_))); (case side2 => exact HC0.out); rintro e w9 ⟨v223, rfl, ho0, hb⟩; refine ⟨_, rfl, ?_⟩; have HO224 := Aside0.mk (Kd.R_lower ho0 (below_size (ne_ HB.out))); replace HB := kB_ HB hb; (try clear hb); (try clear hb2); (try clear hk); (try clear hi); (try clear ho0); obtain ⟨Ao10, co10, eo10⟩ := Kd.R_slice HO224.out; subst eo10) | ((with_reducible refine gate_callee (f := 17) rfl ?_); refine gl_ (some 22) Try.func17 #[.slice Ao10 t222.length co10] ?_; (with_reducible refine (spec_StairOf.calls k _ _ t222 t225 t226 _ ?side1 ?side2 A5.out).mono ?_); (case side1 => exact nc_ (rR4 HO224.out).2.2); (case side2 => exact (rR4 HO224.out).2.1); rintro e w11 ⟨v227, rfl, ho0, hb⟩; refine ⟨_, rfl, ?_⟩; have HO228 := Aside0.mk (Kd.R_lower (Kd.R_new' ho0 (Kd.R_lt (nr_ HO224.out))) (below_size (ne_ HB.out))); replace HO224 := Aside0.mk (Kd.R_elder' (nr_ HO224.out) (Kd.R_base ho0) hb); replace HB := kB_ HB hb; (try clear hb); (try clear hb2); (try clear hk); (try clear hi); (try clear ho0)) | ((with_reducible refine gate_callee (f := 18) rfl ?_); refine gl_ (some 26) Try.func18 #[.slice A0 l0.length c0] ?_; (with_reducible refine (laws_toStepS.calls k _ _ l0 t229 _ ?side1 ?side2 A6.out).mono ?_); (case side1 => exact nc_ (Kd.C_below HR0.out HB.out)); (case side2 => exact HC0.out); rintro e w12 ⟨v230, rfl, ho0, hb⟩; refine ⟨_, rfl, ?_⟩; have HO231 := Aside0.mk (Kd.R_lower (Kd.R_new' (Kd.R_new' ho0 (Kd.R_lt (nr_ HO224.out))) (Kd.R_lt (nr_ HO228.out))) (below_size (ne_ HB.out))); replace HO224 := Aside0.mk (Kd.R_elder' (nr_ HO224.out) (Kd.R_base ho0) hb); replace HO228 := Aside0.mk (Kd.R_elder' (nr_ HO228.out) (Kd.R_base ho0) hb); replace HB := kB_ HB hb; (try clear hb); (try clear hb2); (try clear hk); (try clear hi); (try clear ho0); obtain ⟨Ao13, co13, eo13⟩ := Kd.R_slice HO231.out; subst eo13) | ((with_reducible refine gate_callee (f := 19) rfl ?_); refine gl_ (some 29) Try.func19 #[.slice Ao13 t229.length co13] ?_; (with_reducible refine (impl_StairOf.calls k _ _ t229 t232 t233 _ ?side1 ?side2 A7.out).mono ?_); (case side1 => exact nc_ (rR4 HO231.out).2.2); (case side2 => exact (rR4 HO231.out).2.1); rintro e w14 ⟨v234, rfl, ho0, hb⟩; refine ⟨_, rfl, ?_⟩; have HO235 := Aside0.mk (Kd.R_lower (Kd.R_new' (Kd.R_new' (Kd.R_new' ho0 (Kd.R_lt (nr_ HO224.out))) (Kd.R_lt (nr_ HO228.out))) (Kd.R_lt (nr_ HO231.out))) (below_size (ne_ HB.out))); replace HO224 := Aside0.mk (Kd.R_elder' (nr_ HO224.out) (Kd.R_base ho0) hb); replace HO228 := Aside0.mk (Kd.R_elder' (nr_ HO228.out) (Kd.R_base ho0) hb); replace HO231 := Aside0.mk (Kd.R_elder' (nr_ HO231.out) (Kd.R_base ho0) hb); replace HB := kB_ HB hb; (try clear hb); (try clear hb2); (try clear hk); (try clear hi); (try clear ho0)))
  (try simp only [Act.put, List.setIfInBounds_toArray, List.set_cons_zero, List.set_cons_succ])
  go_cut [40] (fun v40 wc => ∃ (kq : Nat) (x40_7 : Bool), v40 = .bool x40_7 ∧ Aside0 (laws_FnExactStairOf.j0 kq l0 t225 t226 t229 t232 t233 x40_7 = some r) ∧ Aside0 (kq ≤ k) ∧ Aside0 (Kd.R k36 36 wc w.heap.size (fun k_ => some k_ ≠ ((.slice Ao13 t229.length co13) : Value).ownBlock ∧ some k_ ≠ (v234 : Value).ownBlock) v227 t225) ∧ Aside0 (Kd.R k36 36 wc w.heap.size (fun k_ => some k_ ≠ (v227 : Value).ownBlock ∧ some k_ ≠ (v234 : Value).ownBlock) (.slice Ao13 t229.length co13) t229) ∧ Aside0 (Kd.R k36 36 wc w.heap.size (fun k_ => some k_ ≠ (v227 : Value).ownBlock ∧ some k_ ≠ ((.slice Ao13 t229.length co13) : Value).ownBlock) v234 t232) ∧ Aside0 (Below w.heap.size w wc))
  case first =>
   have H := HC8.out
   clear HC8
   replace H := Option.bind_eq_some_iff.mp H
   obtain ⟨t236, A150, H⟩ := H
   try dsimp only at H
   have A15 := Aside0.mk A150
   clear A150
   by_cases c16 : t236 = true
   ·subst c16
    have H1 : (laws_FnExactStairOf.j0 k l0 t225 t226 t229 t232 t233 (t233 != t226)) = some r := by rw [if_pos rfl] at H; exact H
    clear H
    have H := H1
    clear H1
    have H' := Aside0.mk H
    clear H
    obtain ⟨Ao17, co17, eo17⟩ := Kd.R_slice HO235.out
    subst eo17
    obtain ⟨Ao18, co18, eo18⟩ := Kd.R_slice HO228.out
    subst eo18
    go_wp2_with (first | ((with_reducible refine gate_callee (f := 13) rfl ?_); refine gl_ (some 34) Try.func13 #[.slice Ao17 t232.length co17, .slice Ao18 t225.length co18] ?_; (with_reducible refine (laws_eqStepS.calls k _ _ t232 _ _ t225 true _ ?side1 ?side2 ?side3 ?side4 A15.out).mono ?_); (case side1 => exact nc_ (rR4 HO235.out).2.2); (case side2 => exact (rR4 HO235.out).2.1); (case side3 => exact nc_ (rR4 HO228.out).2.2); (case side4 => exact (rR4 HO228.out).2.1); rintro e w19 ⟨rfl, hb⟩; refine ⟨_, rfl, ?_⟩; replace HO224 := kR_ HO224 hb; replace HO228 := kR_ HO228 hb; replace HO231 := kR_ HO231 hb; replace HO235 := kR_ HO235 hb; replace HB := kB_ HB hb; (try clear hb); (try clear hb2); (try clear hk); (try clear hi)))
    go_meet
    case rel => exact ⟨_, ((t233 != t226)), ns_, H', ⟨by first | omega | exact Nat.le_refl _⟩, ⟨by (with_reducible repeat (first | apply Kd.R_alloc | apply Kd.R_drewN | apply Kd.R_drew)); exact Kd.R_mono HO228.out (fun _ hk => by first | exact ⟨hk.1.2, hk.2⟩ | trivial | simp_all)⟩, ⟨by (with_reducible repeat (first | apply Kd.R_alloc | apply Kd.R_drewN | apply Kd.R_drew)); exact Kd.R_mono HO231.out (fun _ hk => by first | exact ⟨hk.1.2, hk.2⟩ | trivial | simp_all)⟩, ⟨by (with_reducible repeat (first | apply Kd.R_alloc | apply Kd.R_drewN | apply Kd.R_drew)); exact Kd.R_mono HO235.out (fun _ hk => by first | exact ⟨hk.1.2, hk.2⟩ | trivial | simp_all)⟩, ⟨ne_ HB.out⟩⟩
   replace c16 := Bool.eq_false_iff.mpr c16
   subst c16
   have H1 : (laws_FnExactStairOf.j0 k l0 t225 t226 t229 t232 t233 true) = some r := by rw [if_neg (show ¬ (false = true) by decide)] at H; exact H
   clear H
   have H := H1
   clear H1
   have H' := Aside0.mk H
   clear H
   obtain ⟨Ao20, co20, eo20⟩ := Kd.R_slice HO235.out
   subst eo20
   obtain ⟨Ao21, co21, eo21⟩ := Kd.R_slice HO228.out
   subst eo21
   go_wp2_with (first | ((with_reducible refine gate_callee (f := 13) rfl ?_); refine gl_ (some 34) Try.func13 #[.slice Ao20 t232.length co20, .slice Ao21 t225.length co21] ?_; (with_reducible refine (laws_eqStepS.calls k _ _ t232 _ _ t225 false _ ?side1 ?side2 ?side3 ?side4 A15.out).mono ?_); (case side1 => exact nc_ (rR4 HO235.out).2.2); (case side2 => exact (rR4 HO235.out).2.1); (case side3 => exact nc_ (rR4 HO228.out).2.2); (case side4 => exact (rR4 HO228.out).2.1); rintro e w22 ⟨rfl, hb⟩; refine ⟨_, rfl, ?_⟩; replace HO224 := kR_ HO224 hb; replace HO228 := kR_ HO228 hb; replace HO231 := kR_ HO231 hb; replace HO235 := kR_ HO235 hb; replace HB := kB_ HB hb; (try clear hb); (try clear hb2); (try clear hk); (try clear hi)))
   go_meet
   case rel => exact ⟨_, (true), ns_, H', ⟨by first | omega | exact Nat.le_refl _⟩, ⟨by (with_reducible repeat (first | apply Kd.R_alloc | apply Kd.R_drewN | apply Kd.R_drew)); exact Kd.R_mono HO228.out (fun _ hk => by first | exact ⟨hk.1.2, hk.2⟩ | trivial | simp_all)⟩, ⟨by (with_reducible repeat (first | apply Kd.R_alloc | apply Kd.R_drewN | apply Kd.R_drew)); exact Kd.R_mono HO231.out (fun _ hk => by first | exact ⟨hk.1.2, hk.2⟩ | trivial | simp_all)⟩, ⟨by (with_reducible repeat (first | apply Kd.R_alloc | apply Kd.R_drewN | apply Kd.R_drew)); exact Kd.R_mono HO235.out (fun _ hk => by first | exact ⟨hk.1.2, hk.2⟩ | trivial | simp_all)⟩, ⟨ne_ HB.out⟩⟩
  case rest =>
   clear HC8
   try clear c3
   try clear c3b0
   obtain ⟨kq, x40_7, rfl, HA, HJ7, HO_4, HO_6, HO_7, HB⟩ := hcut
   cases kq with
   | zero => exact absurd HA.out (by simp [laws_FnExactStairOf.j0])
   | succ kj7 =>
    have H := HA.out
    clear HA
    simp only [laws_FnExactStairOf.j0] at H
    by_cases c23 : x40_7 = true
    ·subst c23
     have H1 : (some false) = some r := by rw [if_pos rfl] at H; exact H
     clear H
     have H := H1
     clear H1
     obtain rfl := Option.some.inj H
     go_wp2
     go_ret
     exact ⟨nw_, ne_ HB.out⟩
    replace c23 := Bool.eq_false_iff.mpr c23
    subst c23
    have H1 : ((laws_toStepS.f kj7 l0).bind fun t237 => ((laws_eqStepS.f kj7 t229 t237).bind fun t240 => (if t240 = true then ((laws_markStepS.f kj7 t229 1).bind fun bt241 => (if bt241.1 < 0 then (laws_FnExactStairOf.j1 kj7 l0 t225 t226 t232 true) else ((laws_eqStepS.f kj7 t232 t225).bind fun t243 => (if t243 = true then (laws_FnExactStairOf.j1 kj7 l0 t225 t226 t232 (t233 != t226)) else (laws_FnExactStairOf.j1 kj7 l0 t225 t226 t232 true))))) else (some false)))) = some r := by rw [if_neg (show ¬ (false = true) by decide)] at H; exact H
    clear H
    have H := H1
    clear H1
    replace H := Option.bind_eq_some_iff.mp H
    obtain ⟨t237, A240, H⟩ := H
    try dsimp only at H
    have A24 := Aside0.mk A240
    clear A240
    replace H := Option.bind_eq_some_iff.mp H
    obtain ⟨t240, A250, H⟩ := H
    try dsimp only at H
    have A25 := Aside0.mk A250
    clear A250
    by_cases c26 : t240 = true
    rotate_left
    ·replace c26 := Bool.eq_false_iff.mpr c26
     subst c26
     have H1 : (some false) = some r := by rw [if_neg (show ¬ (false = true) by decide)] at H; exact H
     clear H
     have H := H1
     clear H1
     obtain rfl := Option.some.inj H
     go_wp2_with (first | ((with_reducible refine gate_callee (f := 18) rfl ?_); refine gl_ (some 43) Try.func18 #[.slice A0 l0.length c0] ?_; (with_reducible refine (laws_toStepS.calls kj7 _ _ l0 t237 _ ?side1 ?side2 A24.out).mono ?_); (case side1 => exact nc_ (Kd.C_below HR0.out HB.out)); (case side2 => exact HC0.out); rintro e w71 ⟨v238, rfl, ho0, hb⟩; refine ⟨_, rfl, ?_⟩; have HO239 := Aside0.mk (Kd.R_lower (Kd.R_new' (Kd.R_new' (Kd.R_new' ho0 (Kd.R_lt (nr_ HO_4.out))) (Kd.R_lt (nr_ HO_6.out))) (Kd.R_lt (nr_ HO_7.out))) (below_size (ne_ HB.out))); replace HO_4 := Aside0.mk (Kd.R_elder' (nr_ HO_4.out) (Kd.R_base ho0) hb); replace HO_6 := Aside0.mk (Kd.R_elder' (nr_ HO_6.out) (Kd.R_base ho0) hb); replace HO_7 := Aside0.mk (Kd.R_elder' (nr_ HO_7.out) (Kd.R_base ho0) hb); replace HB := kB_ HB hb; (try clear hb); (try clear hb2); (try clear hk); (try clear hi); (try clear ho0); obtain ⟨Ao72, co72, eo72⟩ := Kd.R_slice HO239.out; subst eo72) | ((with_reducible refine gate_callee (f := 13) rfl ?_); refine gl_ (some 44) Try.func13 #[.slice Ao13 t229.length co13, .slice Ao72 t237.length co72] ?_; (with_reducible refine (laws_eqStepS.calls kj7 _ _ t229 _ _ t237 false _ ?side1 ?side2 ?side3 ?side4 A25.out).mono ?_); (case side1 => exact nc_ (rR4 HO_6.out).2.2); (case side2 => exact (rR4 HO_6.out).2.1); (case side3 => exact nc_ (rR4 HO239.out).2.2); (case side4 => exact (rR4 HO239.out).2.1); rintro e w73 ⟨rfl, hb⟩; refine ⟨_, rfl, ?_⟩; replace HO_4 := kR_ HO_4 hb; replace HO_6 := kR_ HO_6 hb; replace HO_7 := kR_ HO_7 hb; replace HO239 := kR_ HO239 hb; replace HB := kB_ HB hb; (try clear hb); (try clear hb2); (try clear hk); (try clear hi)))
     go_ret
     exact ⟨nw_, ne_ HB.out⟩

    subst c26
    rw [if_pos rfl] at H
    replace H := Option.bind_eq_some_iff.mp H
    obtain ⟨⟨t241, t242⟩, A270, H⟩ := H
    try dsimp only at H
    have A27 := Aside0.mk A270
    clear A270
    have HC28 := Aside0.mk H
    clear H
    go_upto_region 14 with (first | ((with_reducible refine gate_callee (f := 18) rfl ?_); refine gl_ (some 43) Try.func18 #[.slice A0 l0.length c0] ?_; (with_reducible refine (laws_toStepS.calls kj7 _ _ l0 t237 _ ?side1 ?side2 A24.out).mono ?_); (case side1 => exact nc_ (Kd.C_below HR0.out HB.out)); (case side2 => exact HC0.out); rintro e w29 ⟨v238, rfl, ho0, hb⟩; refine ⟨_, rfl, ?_⟩; have HO239 := Aside0.mk (Kd.R_lower (Kd.R_new' (Kd.R_new' (Kd.R_new' ho0 (Kd.R_lt (nr_ HO_4.out))) (Kd.R_lt (nr_ HO_6.out))) (Kd.R_lt (nr_ HO_7.out))) (below_size (ne_ HB.out))); replace HO_4 := Aside0.mk (Kd.R_elder' (nr_ HO_4.out) (Kd.R_base ho0) hb); replace HO_6 := Aside0.mk (Kd.R_elder' (nr_ HO_6.out) (Kd.R_base ho0) hb); replace HO_7 := Aside0.mk (Kd.R_elder' (nr_ HO_7.out) (Kd.R_base ho0) hb); replace HB := kB_ HB hb; (try clear hb); (try clear hb2); (try clear hk); (try clear hi); (try clear ho0); obtain ⟨Ao30, co30, eo30⟩ := Kd.R_slice HO239.out; subst eo30) | ((with_reducible refine gate_callee (f := 13) rfl ?_); refine gl_ (some 44) Try.func13 #[.slice Ao13 t229.length co13, .slice Ao30 t237.length co30] ?_; (with_reducible refine (laws_eqStepS.calls kj7 _ _ t229 _ _ t237 true _ ?side1 ?side2 ?side3 ?side4 A25.out).mono ?_); (case side1 => exact nc_ (rR4 HO_6.out).2.2); (case side2 => exact (rR4 HO_6.out).2.1); (case side3 => exact nc_ (rR4 HO239.out).2.2); (case side4 => exact (rR4 HO239.out).2.1); rintro e w31 ⟨rfl, hb⟩; refine ⟨_, rfl, ?_⟩; replace HO_4 := kR_ HO_4 hb; replace HO_6 := kR_ HO_6 hb; replace HO_7 := kR_ HO_7 hb; replace HO239 := kR_ HO239 hb; replace HB := kB_ HB hb; (try clear hb); (try clear hb2); (try clear hk); (try clear hi)) | ((with_reducible refine gate_callee (f := 14) rfl ?_); refine gl_ (some 48) Try.func14 #[.slice Ao13 t229.length co13, .int .i64 1] ?_; (with_reducible refine (laws_markStepS.calls kj7 (fun k_ => some k_ = (.slice Ao13 t229.length co13 : Value).ownBlock) (.slice Ao13 t229.length co13) t229 1 t241 t242 w _ ?side1 ?side2 A27.out).mono ?_); (case side1 => exact (ne_ HB.out)); (case side2 => exact Kd.R_tight rfl HO_6.out); rintro e w32 ⟨rfl, hy0, hb, hkp⟩; refine ⟨_, rfl, ?_⟩; replace HO_4 := Aside0.mk (Kd.R_mono (ok' := fun k_ => some k_ ≠ (.slice Ao13 t229.length co13 : Value).ownBlock ∧ some k_ ≠ (v234 : Value).ownBlock ∧ some k_ ≠ (.slice Ao30 t237.length co30 : Value).ownBlock) (Kd.R_keptB (HO_4.out) hkp (fun k_ hk_ hs_ => (hk_.1.1) hs_)) (fun k_ hk_ => ⟨hk_.1.1.1, hk_.1.1.2, hk_.1.2⟩)); replace HO_6 := Aside0.mk (Kd.R_reok rfl hy0 (fun k_ e_ => HO_6.out.1 k_ e_)); replace HO_7 := Aside0.mk (Kd.R_mono (ok' := fun k_ => some k_ ≠ (v227 : Value).ownBlock ∧ some k_ ≠ (.slice Ao13 t229.length co13 : Value).ownBlock ∧ some k_ ≠ (.slice Ao30 t237.length co30 : Value).ownBlock) (Kd.R_keptB (HO_7.out) hkp (fun k_ hk_ hs_ => (hk_.1.2) hs_)) (fun k_ hk_ => ⟨hk_.1.1.1, hk_.1.1.2, hk_.1.2⟩)); replace HO239 := Aside0.mk (Kd.R_mono (ok' := fun k_ => some k_ ≠ (v227 : Value).ownBlock ∧ some k_ ≠ (.slice Ao13 t229.length co13 : Value).ownBlock ∧ some k_ ≠ (v234 : Value).ownBlock) (Kd.R_keptB (HO239.out) hkp (fun k_ hk_ hs_ => (hk_.1.2) hs_)) (fun k_ hk_ => ⟨hk_.1.1.1.2, hk_.1.1.2, hk_.1.2⟩)); replace HB := Aside0.mk (hb); (try clear hb); (try clear hkp); (try clear hy0)))
    (try simp only [Act.put, List.setIfInBounds_toArray, List.set_cons_zero, List.set_cons_succ])
    go_cut [61] (fun v61 wc => ∃ (kq : Nat) (x61_27 : Bool), v61 = .bool x61_27 ∧ Aside0 (laws_FnExactStairOf.j1 kq l0 t225 t226 t232 x61_27 = some r) ∧ Aside0 (kq ≤ kj7) ∧ Aside0 (Kd.R k36 36 wc w.heap.size (fun k_ => some k_ ≠ (v234 : Value).ownBlock) v227 t225) ∧ Aside0 (Kd.R k36 36 wc w.heap.size (fun k_ => some k_ ≠ (v227 : Value).ownBlock) v234 t232) ∧ Aside0 (Below w.heap.size w wc))
    case first =>
     have H := HC28.out
     clear HC28
     by_cases c33 : t241 < 0
     ·rw [if_pos c33] at H
      have c33b0 : decide (t241 < 0) = true := decide_eq_true c33
      clear c33
      (first | rw [c33b0] | (simp only [i64_w, i32_w]; rw [c33b0]) | skip)
      have H' := Aside0.mk H
      clear H
      go_wp2
      go_meet
      case rel => exact ⟨_, (true), ns_, H', ⟨by have := HJ7.out; first | omega | exact Nat.le_refl _⟩, ⟨by (with_reducible repeat (first | apply Kd.R_alloc | apply Kd.R_drewN | apply Kd.R_drew)); exact Kd.R_mono HO_4.out (fun _ hk => by first | exact hk.2.1 | trivial | simp_all)⟩, ⟨by (with_reducible repeat (first | apply Kd.R_alloc | apply Kd.R_drewN | apply Kd.R_drew)); exact Kd.R_mono HO_7.out (fun _ hk => hk.1)⟩, ⟨ne_ HB.out⟩⟩
     rw [if_neg c33] at H
     have c33b0 : decide (t241 < 0) = false := decide_eq_false c33
     clear c33
     (first | rw [c33b0] | (simp only [i64_w, i32_w]; rw [c33b0]) | skip)
     replace H := Option.bind_eq_some_iff.mp H
     obtain ⟨t243, A340, H⟩ := H
     try dsimp only at H
     have A34 := Aside0.mk A340
     clear A340
     by_cases c35 : t243 = true
     ·subst c35
      have H1 : (laws_FnExactStairOf.j1 kj7 l0 t225 t226 t232 (t233 != t226)) = some r := by rw [if_pos rfl] at H; exact H
      clear H
      have H := H1
      clear H1
      have H' := Aside0.mk H
      clear H
      obtain ⟨Ao36, co36, eo36⟩ := Kd.R_slice HO_7.out
      subst eo36
      obtain ⟨Ao37, co37, eo37⟩ := Kd.R_slice HO_4.out
      subst eo37
      go_wp2_with (first | (go_at_call 13; (with_reducible refine (laws_eqStepS.calls kj7 _ _ t232 _ _ t225 true _ ?side1 ?side2 ?side3 ?side4 A34.out).mono ?_); (case side1 => exact nc_ (rR4 HO_7.out).2.2); (case side2 => exact (rR4 HO_7.out).2.1); (case side3 => exact nc_ (rR4 HO_4.out).2.2); (case side4 => exact (rR4 HO_4.out).2.1); rintro e w38 ⟨rfl, hb⟩; replace HO_4 := kR_ HO_4 hb; replace HO_6 := kR_ HO_6 hb; replace HO_7 := kR_ HO_7 hb; replace HO239 := kR_ HO239 hb; replace HB := kB_ HB hb; (try clear hb); (try clear hb2); (try clear hk); (try clear hi)))
      go_meet
      case rel => exact ⟨_, ((t233 != t226)), ns_, H', ⟨by have := HJ7.out; first | omega | exact Nat.le_refl _⟩, ⟨by (with_reducible repeat (first | apply Kd.R_alloc | apply Kd.R_drewN | apply Kd.R_drew)); exact Kd.R_mono HO_4.out (fun _ hk => by first | exact hk.2.1 | trivial | simp_all)⟩, ⟨by (with_reducible repeat (first | apply Kd.R_alloc | apply Kd.R_drewN | apply Kd.R_drew)); exact Kd.R_mono HO_7.out (fun _ hk => hk.1)⟩, ⟨ne_ HB.out⟩⟩
     replace c35 := Bool.eq_false_iff.mpr c35
     subst c35
     have H1 : (laws_FnExactStairOf.j1 kj7 l0 t225 t226 t232 true) = some r := by rw [if_neg (show ¬ (false = true) by decide)] at H; exact H
     clear H
     have H := H1
     clear H1
     have H' := Aside0.mk H
     clear H
     obtain ⟨Ao39, co39, eo39⟩ := Kd.R_slice HO_7.out
     subst eo39
     obtain ⟨Ao40, co40, eo40⟩ := Kd.R_slice HO_4.out
     subst eo40
     go_wp2_with (first | (go_at_call 13; (with_reducible refine (laws_eqStepS.calls kj7 _ _ t232 _ _ t225 false _ ?side1 ?side2 ?side3 ?side4 A34.out).mono ?_); (case side1 => exact nc_ (rR4 HO_7.out).2.2); (case side2 => exact (rR4 HO_7.out).2.1); (case side3 => exact nc_ (rR4 HO_4.out).2.2); (case side4 => exact (rR4 HO_4.out).2.1); rintro e w41 ⟨rfl, hb⟩; replace HO_4 := kR_ HO_4 hb; replace HO_6 := kR_ HO_6 hb; replace HO_7 := kR_ HO_7 hb; replace HO239 := kR_ HO239 hb; replace HB := kB_ HB hb; (try clear hb); (try clear hb2); (try clear hk); (try clear hi)))
     go_meet
     case rel => exact ⟨_, (true), ns_, H', ⟨by have := HJ7.out; first | omega | exact Nat.le_refl _⟩, ⟨by (with_reducible repeat (first | apply Kd.R_alloc | apply Kd.R_drewN | apply Kd.R_drew)); exact Kd.R_mono HO_4.out (fun _ hk => by first | exact hk.2.1 | trivial | simp_all)⟩, ⟨by (with_reducible repeat (first | apply Kd.R_alloc | apply Kd.R_drewN | apply Kd.R_drew)); exact Kd.R_mono HO_7.out (fun _ hk => hk.1)⟩, ⟨ne_ HB.out⟩⟩
    case rest =>
     clear HC28
     try clear c3
     try clear c3b0
     try clear c23
     try clear c26
     obtain ⟨kq, x61_27, rfl, HA, HJ27, HO_4, HO_7, HB⟩ := hcut
     cases kq with
     | zero => exact absurd HA.out (by simp [laws_FnExactStairOf.j1])
     | succ kj27 =>
      have H := HA.out
      clear HA
      simp only [laws_FnExactStairOf.j1] at H
      by_cases c42 : x61_27 = true
      ·subst c42
       have H1 : (some false) = some r := by rw [if_pos rfl] at H; exact H
       clear H
       have H := H1
       clear H1
       obtain rfl := Option.some.inj H
       go_wp2
       go_ret
       exact ⟨nw_, ne_ HB.out⟩
      replace c42 := Bool.eq_false_iff.mpr c42
      subst c42
      have H1 : ((laws_markStepS.f kj27 t232 1).bind fun bt244 => ((laws_heldStepS.f kj27 bt244.2 1).bind fun t246 => (if t246 < 0 then (some false) else (if t246 = bt244.1 then ((laws_toStepS.f kj27 l0).bind fun t247 => ((impl_StairOf.f kj27 t247).bind fun bt250 => ((laws_eqStepS.f kj27 bt250.1 t225).bind fun t254 => (if t254 = true then (laws_FnExactStairOf.j2 kj27 bt244.2 bt244.1 (bt250.2 != t226)) else (laws_FnExactStairOf.j2 kj27 bt244.2 bt244.1 true))))) else (some false))))) = some r := by rw [if_neg (show ¬ (false = true) by decide)] at H; exact H
      clear H
      have H := H1
      clear H1
      replace H := Option.bind_eq_some_iff.mp H
      obtain ⟨⟨t244, t245⟩, A430, H⟩ := H
      try dsimp only at H
      have A43 := Aside0.mk A430
      clear A430
      replace H := Option.bind_eq_some_iff.mp H
      obtain ⟨t246, A440, H⟩ := H
      try dsimp only at H
      have A44 := Aside0.mk A440
      clear A440
      by_cases c45 : t246 < 0
      ·rw [if_pos c45] at H
       have c45b0 : decide (t246 < 0) = true := decide_eq_true c45
       clear c45
       obtain rfl := Option.some.inj H
       obtain ⟨Ao46, co46, eo46⟩ := Kd.R_slice HO_7.out
       subst eo46
       go_wp2_with (first | ((with_reducible refine gate_callee (f := 14) rfl ?_); refine gl_ (some 64) Try.func14 #[.slice Ao46 t232.length co46, .int .i64 1] ?_; (with_reducible refine (laws_markStepS.calls kj27 (fun k_ => some k_ = (.slice Ao46 t232.length co46 : Value).ownBlock) (.slice Ao46 t232.length co46) t232 1 t244 t245 w _ ?side1 ?side2 A43.out).mono ?_); (case side1 => exact (ne_ HB.out)); (case side2 => exact Kd.R_tight rfl HO_7.out); rintro e w47 ⟨rfl, hy0, hb, hkp⟩; refine ⟨_, rfl, ?_⟩; replace HO_4 := Aside0.mk (Kd.R_mono (ok' := fun k_ => some k_ ≠ (.slice Ao46 t232.length co46 : Value).ownBlock) (Kd.R_keptB (HO_4.out) hkp (fun k_ hk_ hs_ => (hk_) hs_)) (fun k_ hk_ => hk_.1)); replace HO_7 := Aside0.mk (Kd.R_reok rfl hy0 (fun k_ e_ => HO_7.out.1 k_ e_)); replace HB := Aside0.mk (hb); (try clear hb); (try clear hkp); (try clear hy0)) | ((with_reducible refine gate_callee (f := 15) rfl ?_); refine goesL_ (some 67) rfl rfl Try.func15 (by kernel_rfl) rfl #[.slice Ao46 t245.length co46, .int .i64 1] rfl (by (try simp only [List.map_toArray, List.map_cons, List.map_nil]); first | done | (rw [show t245.length = t232.length from (rR4 HO_7.out).1.symm] <;> rfl) | rfl | (simp only [List.length_drop, List.length_take]; rfl)) ?_; (with_reducible refine (laws_heldStepS.calls kj27 _ _ t245 1 t246 _ ?side1 ?side2 A44.out).mono ?_); (case side1 => exact nc_ (rR4 HO_7.out).2.2); (case side2 => rw [show t245.length = t232.length from (rR4 HO_7.out).1.symm]; exact (rR4 HO_7.out).2.1); rintro e w' ⟨rfl, ⟨nd, rfl⟩⟩; refine ⟨_, rfl, ?_⟩))
       go_ret
       exact ⟨nw_, ne_ HB.out⟩
      rw [if_neg c45] at H
      have c45b0 : decide (t246 < 0) = false := decide_eq_false c45
      clear c45
      by_cases c48 : t246 = t244
      rotate_left
      ·rw [if_neg c48] at H
       have c48b0 : (t246 == t244) = false := beq_eq_false_iff_ne.mpr c48
       have c48b1 : (t246 != t244) = true := bne_iff_ne.mpr c48
       obtain rfl := Option.some.inj H
       obtain ⟨Ao69, co69, eo69⟩ := Kd.R_slice HO_7.out
       subst eo69
       go_wp2_with (first | ((with_reducible refine gate_callee (f := 14) rfl ?_); refine gl_ (some 64) Try.func14 #[.slice Ao69 t232.length co69, .int .i64 1] ?_; (with_reducible refine (laws_markStepS.calls kj27 (fun k_ => some k_ = (.slice Ao69 t232.length co69 : Value).ownBlock) (.slice Ao69 t232.length co69) t232 1 t244 t245 w _ ?side1 ?side2 A43.out).mono ?_); (case side1 => exact (ne_ HB.out)); (case side2 => exact Kd.R_tight rfl HO_7.out); rintro e w70 ⟨rfl, hy0, hb, hkp⟩; refine ⟨_, rfl, ?_⟩; replace HO_4 := Aside0.mk (Kd.R_mono (ok' := fun k_ => some k_ ≠ (.slice Ao69 t232.length co69 : Value).ownBlock) (Kd.R_keptB (HO_4.out) hkp (fun k_ hk_ hs_ => (hk_) hs_)) (fun k_ hk_ => hk_.1)); replace HO_7 := Aside0.mk (Kd.R_reok rfl hy0 (fun k_ e_ => HO_7.out.1 k_ e_)); replace HB := Aside0.mk (hb); (try clear hb); (try clear hkp); (try clear hy0)) | ((with_reducible refine gate_callee (f := 15) rfl ?_); refine goesL_ (some 67) rfl rfl Try.func15 (by kernel_rfl) rfl #[.slice Ao69 t245.length co69, .int .i64 1] rfl (by (try simp only [List.map_toArray, List.map_cons, List.map_nil]); first | done | (rw [show t245.length = t232.length from (rR4 HO_7.out).1.symm] <;> rfl) | rfl | (simp only [List.length_drop, List.length_take]; rfl)) ?_; (with_reducible refine (laws_heldStepS.calls kj27 _ _ t245 1 t246 _ ?side1 ?side2 A44.out).mono ?_); (case side1 => exact nc_ (rR4 HO_7.out).2.2); (case side2 => rw [show t245.length = t232.length from (rR4 HO_7.out).1.symm]; exact (rR4 HO_7.out).2.1); rintro e w' ⟨rfl, ⟨nd, rfl⟩⟩; refine ⟨_, rfl, ?_⟩))
       go_ret
       exact ⟨nw_, ne_ HB.out⟩
      rw [if_pos c48] at H
      have c48b0 : (t246 == t244) = true := beq_iff_eq.mpr c48
      have c48b1 : (t246 != t244) = false := bne_eq_false_iff_eq.mpr c48
      clear c48
      replace H := Option.bind_eq_some_iff.mp H
      obtain ⟨t247, A490, H⟩ := H
      try dsimp only at H
      have A49 := Aside0.mk A490
      clear A490
      replace H := Option.bind_eq_some_iff.mp H
      obtain ⟨⟨t250, t251⟩, A500, H⟩ := H
      try dsimp only at H
      have A50 := Aside0.mk A500
      clear A500
      have HC51 := Aside0.mk H
      clear H
      obtain ⟨Ao52, co52, eo52⟩ := Kd.R_slice HO_7.out
      subst eo52
      go_upto_region 25 with (first | ((with_reducible refine gate_callee (f := 14) rfl ?_); refine gl_ (some 64) Try.func14 #[.slice Ao52 t232.length co52, .int .i64 1] ?_; (with_reducible refine (laws_markStepS.calls kj27 (fun k_ => some k_ = (.slice Ao52 t232.length co52 : Value).ownBlock) (.slice Ao52 t232.length co52) t232 1 t244 t245 w _ ?side1 ?side2 A43.out).mono ?_); (case side1 => exact (ne_ HB.out)); (case side2 => exact Kd.R_tight rfl HO_7.out); rintro e w53 ⟨rfl, hy0, hb, hkp⟩; refine ⟨_, rfl, ?_⟩; replace HO_4 := Aside0.mk (Kd.R_mono (ok' := fun k_ => some k_ ≠ (.slice Ao52 t232.length co52 : Value).ownBlock) (Kd.R_keptB (HO_4.out) hkp (fun k_ hk_ hs_ => (hk_) hs_)) (fun k_ hk_ => hk_.1)); replace HO_7 := Aside0.mk (Kd.R_reok rfl hy0 (fun k_ e_ => HO_7.out.1 k_ e_)); replace HB := Aside0.mk (hb); (try clear hb); (try clear hkp); (try clear hy0)) | ((with_reducible refine gate_callee (f := 15) rfl ?_); refine goesL_ (some 67) rfl rfl Try.func15 (by kernel_rfl) rfl #[.slice Ao52 t245.length co52, .int .i64 1] rfl (by (try simp only [List.map_toArray, List.map_cons, List.map_nil]); first | done | (rw [show t245.length = t232.length from (rR4 HO_7.out).1.symm] <;> rfl) | rfl | (simp only [List.length_drop, List.length_take]; rfl)) ?_; (with_reducible refine (laws_heldStepS.calls kj27 _ _ t245 1 t246 _ ?side1 ?side2 A44.out).mono ?_); (case side1 => exact nc_ (rR4 HO_7.out).2.2); (case side2 => rw [show t245.length = t232.length from (rR4 HO_7.out).1.symm]; exact (rR4 HO_7.out).2.1); rintro e w' ⟨rfl, ⟨nd, rfl⟩⟩; refine ⟨_, rfl, ?_⟩) | ((with_reducible refine gate_callee (f := 18) rfl ?_); refine gl_ (some 75) Try.func18 #[.slice A0 l0.length c0] ?_; (with_reducible refine (laws_toStepS.calls kj27 _ _ l0 t247 _ ?side1 ?side2 A49.out).mono ?_); (case side1 => exact nc_ (Kd.C_below HR0.out (ne_ HB.out))); (case side2 => exact HC0.out); rintro e w54 ⟨v248, rfl, ho0, hb⟩; refine ⟨_, rfl, ?_⟩; have HO249 := Aside0.mk (Kd.R_lower (Kd.R_new' (Kd.R_new' ho0 (Kd.R_lt (nr_ HO_4.out))) (Kd.R_lt (nr_ HO_7.out))) (below_size (ne_ HB.out))); replace HO_4 := Aside0.mk (Kd.R_elder' (nr_ HO_4.out) (Kd.R_base ho0) hb); replace HO_7 := Aside0.mk (Kd.R_elder' (nr_ HO_7.out) (Kd.R_base ho0) hb); replace HB := kB_ HB hb; (try clear hb); (try clear hb2); (try clear hk); (try clear hi); (try clear ho0); obtain ⟨Ao55, co55, eo55⟩ := Kd.R_slice HO249.out; subst eo55) | ((with_reducible refine gate_callee (f := 19) rfl ?_); refine gl_ (some 76) Try.func19 #[.slice Ao55 t247.length co55] ?_; (with_reducible refine (impl_StairOf.calls kj27 _ _ t247 t250 t251 _ ?side1 ?side2 A50.out).mono ?_); (case side1 => exact nc_ (rR4 HO249.out).2.2); (case side2 => exact (rR4 HO249.out).2.1); rintro e w56 ⟨v252, rfl, ho0, hb⟩; refine ⟨_, rfl, ?_⟩; have HO253 := Aside0.mk (Kd.R_lower (Kd.R_new' (Kd.R_new' (Kd.R_new' ho0 (Kd.R_lt (nr_ HO_4.out))) (Kd.R_lt (nr_ HO_7.out))) (Kd.R_lt (nr_ HO249.out))) (below_size (ne_ HB.out))); replace HO_4 := Aside0.mk (Kd.R_elder' (nr_ HO_4.out) (Kd.R_base ho0) hb); replace HO_7 := Aside0.mk (Kd.R_elder' (nr_ HO_7.out) (Kd.R_base ho0) hb); replace HO249 := Aside0.mk (Kd.R_elder' (nr_ HO249.out) (Kd.R_base ho0) hb); replace HB := kB_ HB hb; (try clear hb); (try clear hb2); (try clear hk); (try clear hi); (try clear ho0)))
      (try simp only [Act.put, List.setIfInBounds_toArray, List.set_cons_zero, List.set_cons_succ])
      go_cut [87] (fun v87 wc => ∃ (kq : Nat) (x87_50 : Bool), v87 = .bool x87_50 ∧ Aside0 (laws_FnExactStairOf.j2 kq t245 t244 x87_50 = some r) ∧ Aside0 (kq ≤ kj27) ∧ Aside0 (Kd.R k36 36 wc w.heap.size (fun _ => True) (.slice Ao52 t232.length co52) t245) ∧ Aside0 (Below w.heap.size w wc))
      case first =>
       have H := HC51.out
       clear HC51
       replace H := Option.bind_eq_some_iff.mp H
       obtain ⟨t254, A570, H⟩ := H
       try dsimp only at H
       have A57 := Aside0.mk A570
       clear A570
       by_cases c58 : t254 = true
       ·subst c58
        have H1 : (laws_FnExactStairOf.j2 kj27 t245 t244 (t251 != t226)) = some r := by rw [if_pos rfl] at H; exact H
        clear H
        have H := H1
        clear H1
        have H' := Aside0.mk H
        clear H
        obtain ⟨Ao59, co59, eo59⟩ := Kd.R_slice HO253.out
        subst eo59
        obtain ⟨Ao60, co60, eo60⟩ := Kd.R_slice HO_4.out
        subst eo60
        go_wp2_with (first | ((with_reducible refine gate_callee (f := 13) rfl ?_); refine gl_ (some 81) Try.func13 #[.slice Ao59 t250.length co59, .slice Ao60 t225.length co60] ?_; (with_reducible refine (laws_eqStepS.calls kj27 _ _ t250 _ _ t225 true _ ?side1 ?side2 ?side3 ?side4 A57.out).mono ?_); (case side1 => exact nc_ (rR4 HO253.out).2.2); (case side2 => exact (rR4 HO253.out).2.1); (case side3 => exact nc_ (rR4 HO_4.out).2.2); (case side4 => exact (rR4 HO_4.out).2.1); rintro e w61 ⟨rfl, hb⟩; refine ⟨_, rfl, ?_⟩; replace HO_4 := kR_ HO_4 hb; replace HO_7 := kR_ HO_7 hb; replace HO249 := kR_ HO249 hb; replace HO253 := kR_ HO253 hb; replace HB := kB_ HB hb; (try clear hb); (try clear hb2); (try clear hk); (try clear hi)))
        go_meet
        case rel => exact ⟨_, ((t251 != t226)), ns_, H', ⟨by have := HJ7.out; have := HJ27.out; first | omega | exact Nat.le_refl _⟩, ⟨by (with_reducible repeat (first | apply Kd.R_alloc | apply Kd.R_drewN | apply Kd.R_drew)); exact Kd.R_mono HO_7.out (fun _ hk => trivial)⟩, ⟨ne_ HB.out⟩⟩
       replace c58 := Bool.eq_false_iff.mpr c58
       subst c58
       have H1 : (laws_FnExactStairOf.j2 kj27 t245 t244 true) = some r := by rw [if_neg (show ¬ (false = true) by decide)] at H; exact H
       clear H
       have H := H1
       clear H1
       have H' := Aside0.mk H
       clear H
       obtain ⟨Ao62, co62, eo62⟩ := Kd.R_slice HO253.out
       subst eo62
       obtain ⟨Ao63, co63, eo63⟩ := Kd.R_slice HO_4.out
       subst eo63
       go_wp2_with (first | ((with_reducible refine gate_callee (f := 13) rfl ?_); refine gl_ (some 81) Try.func13 #[.slice Ao62 t250.length co62, .slice Ao63 t225.length co63] ?_; (with_reducible refine (laws_eqStepS.calls kj27 _ _ t250 _ _ t225 false _ ?side1 ?side2 ?side3 ?side4 A57.out).mono ?_); (case side1 => exact nc_ (rR4 HO253.out).2.2); (case side2 => exact (rR4 HO253.out).2.1); (case side3 => exact nc_ (rR4 HO_4.out).2.2); (case side4 => exact (rR4 HO_4.out).2.1); rintro e w64 ⟨rfl, hb⟩; refine ⟨_, rfl, ?_⟩; replace HO_4 := kR_ HO_4 hb; replace HO_7 := kR_ HO_7 hb; replace HO249 := kR_ HO249 hb; replace HO253 := kR_ HO253 hb; replace HB := kB_ HB hb; (try clear hb); (try clear hb2); (try clear hk); (try clear hi)))
       go_meet
       case rel => exact ⟨_, (true), ns_, H', ⟨by have := HJ7.out; have := HJ27.out; first | omega | exact Nat.le_refl _⟩, ⟨by (with_reducible repeat (first | apply Kd.R_alloc | apply Kd.R_drewN | apply Kd.R_drew)); exact Kd.R_mono HO_7.out (fun _ hk => trivial)⟩, ⟨ne_ HB.out⟩⟩
      case rest =>
       clear HC51
       try clear c3
       try clear c3b0
       try clear c23
       try clear c26
       try clear c42
       try clear c45
       try clear c45b0
       try clear c48
       try clear c48b0
       try clear c48b1
       obtain ⟨kq, x87_50, rfl, HA, HJ50, HO_7, HB⟩ := hcut
       have hl7_50 := (rR4 HO_7.out).1
       rw [hl7_50] at HO_7
       (try simp only [hl7_50])
       cases kq with
       | zero => exact absurd HA.out (by simp [laws_FnExactStairOf.j2])
       | succ kj50 =>
        have H := HA.out
        clear HA
        simp only [laws_FnExactStairOf.j2] at H
        by_cases c65 : x87_50 = true
        ·subst c65
         have H1 : (some false) = some r := by rw [if_pos rfl] at H; exact H
         clear H
         have H := H1
         clear H1
         obtain rfl := Option.some.inj H
         go_wp2
         go_ret
         exact ⟨nw_, ne_ HB.out⟩
        replace c65 := Bool.eq_false_iff.mpr c65
        subst c65
        have H1 : ((laws_heldStepS.f kj50 t245 1).bind fun t255 => (if t255 < 0 then (some false) else (if t255 = t244 then (some true) else (some false)))) = some r := by rw [if_neg (show ¬ (false = true) by decide)] at H; exact H
        clear H
        have H := H1
        clear H1
        replace H := Option.bind_eq_some_iff.mp H
        obtain ⟨t255, A660, H⟩ := H
        replace H : (if t255 < 0 then (some false) else (if t255 = t244 then (some true) else (some false))) = some r := H
        have A66 := Aside0.mk A660
        clear A660
        by_cases c67 : t255 < 0
        ·rw [if_pos c67] at H
         have c67b0 : decide (t255 < 0) = true := decide_eq_true c67
         clear c67
         obtain rfl := Option.some.inj H
         go_wp2_with (first | ((with_reducible refine gate_callee (f := 15) rfl ?_); refine gl_ (some 90) Try.func15 #[.slice Ao52 t245.length co52, .int .i64 1] ?_; (with_reducible refine (laws_heldStepS.calls kj50 _ _ t245 1 t255 _ ?side1 ?side2 A66.out).mono ?_); (case side1 => exact nc_ (rR4 HO_7.out).2.2); (case side2 => exact (rR4 HO_7.out).2.1); rintro e w' ⟨rfl, ⟨nd, rfl⟩⟩; refine ⟨_, rfl, ?_⟩))
         go_ret
         exact ⟨nw_, ne_ HB.out⟩
        rw [if_neg c67] at H
        have c67b0 : decide (t255 < 0) = false := decide_eq_false c67
        clear c67
        by_cases c68 : t255 = t244
        rotate_left
        ·rw [if_neg c68] at H
         have c68b0 : (t255 == t244) = false := beq_eq_false_iff_ne.mpr c68
         have c68b1 : (t255 != t244) = true := bne_iff_ne.mpr c68
         obtain rfl := Option.some.inj H
         go_wp2_with (first | ((with_reducible refine gate_callee (f := 15) rfl ?_); refine gl_ (some 90) Try.func15 #[.slice Ao52 t245.length co52, .int .i64 1] ?_; (with_reducible refine (laws_heldStepS.calls kj50 _ _ t245 1 t255 _ ?side1 ?side2 A66.out).mono ?_); (case side1 => exact nc_ (rR4 HO_7.out).2.2); (case side2 => exact (rR4 HO_7.out).2.1); rintro e w' ⟨rfl, ⟨nd, rfl⟩⟩; refine ⟨_, rfl, ?_⟩))
         go_ret
         exact ⟨nw_, ne_ HB.out⟩
        rw [if_pos c68] at H
        have c68b0 : (t255 == t244) = true := beq_iff_eq.mpr c68
        have c68b1 : (t255 != t244) = false := bne_eq_false_iff_eq.mpr c68
        clear c68
        obtain rfl := Option.some.inj H
        go_wp2_with (first | ((with_reducible refine gate_callee (f := 15) rfl ?_); refine gl_ (some 90) Try.func15 #[.slice Ao52 t245.length co52, .int .i64 1] ?_; (with_reducible refine (laws_heldStepS.calls kj50 _ _ t245 1 t255 _ ?side1 ?side2 A66.out).mono ?_); (case side1 => exact nc_ (rR4 HO_7.out).2.2); (case side2 => exact (rR4 HO_7.out).2.1); rintro e w' ⟨rfl, ⟨nd, rfl⟩⟩; refine ⟨_, rfl, ?_⟩))
        go_ret
        exact ⟨nw_, ne_ HB.out⟩
/-- THE ONE PURE STATEMENT of laws_FnExactStairOf. -/
def laws_FnExactStairOf.Pure : Prop := ∀ (l0 : List (S49)), l0.length ≤ maxLen → (∀ x ∈ l0, (Lit.int .i64 x.f0).wf = true ∧ (Lit.int .i64 x.f1).wf = true) → ∃ k, laws_FnExactStairOf.f k l0 = some true
theorem laws_FnExactStairOf.walk (P : laws_FnExactStairOf.Pure) (A0 : Option Addr) (c0 : Nat) (l0 : List (S49)) (w : World) (hr0 : Kd.C k49 w A0 l0.length l0) (hm0 : l0.length ≤ maxLen) (hw0 : ∀ x ∈ l0, (Lit.int .i64 x.f0).wf = true ∧ (Lit.int .i64 x.f1).wf = true) (hc0 : l0.length ≤ c0) :
    Calls Try.prog 4 #[.slice A0 l0.length c0] w fun e w' => e = .returned (.bool true) ∧ Below w.heap.size w w' := by
  obtain ⟨k, h⟩ := P l0 hm0 hw0
  refine (laws_FnExactStairOf.calls k A0 c0 l0 true w hr0 hc0 h).mono ?_
  rintro e w' ⟨rfl, hd⟩
  exact ⟨rfl, hd⟩

end Go.Proofs.Ytfpfaaibgaejjaa.Print
