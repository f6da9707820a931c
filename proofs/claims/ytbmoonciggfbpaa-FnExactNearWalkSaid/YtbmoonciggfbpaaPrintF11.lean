-- Made by this session's own program (wip/patch_print.py, over the kit's print). Lean checks it.
import Derived.Test.YtbmoonciggfbpaaPrint0
import Derived.Test.YtbmoonciggfbpaaPrintB
import Derived.Test.YtbmoonciggfbpaaPrintF22
import Derived.Test.YtbmoonciggfbpaaPrintF24
import Derived.Test.YtbmoonciggfbpaaPrintF25
import Derived.Test.YtbmoonciggfbpaaPrintF29
import Derived.Test.YtbmoonciggfbpaaPrintF30
namespace Go.Proofs.Ytbmoonciggfbpaa.Print
open Go.RowKit Go.Proofs.YtbmoonciggfbpaaW.PrintWords Go.Proofs.YtbmoonciggfbpaaW.PrintLast Go.Proofs.YtbmoonciggfbpaaW.PrintMore Go.Proofs.YtbmoonciggfbpaaX
attribute [local go_sem] max2_int min2_int max_two min_two max_three min_three max_four min_four   -- for this text's walks alone
set_option linter.unusedVariables false
set_option linter.unusedSimpArgs false

abbrev rR11 := @Kd.R_reads'
/-! ### laws_FnExactNearWalk: function 11 -/
mutual
def laws_FnExactNearWalk.j0 : Nat → Int → Int → List Int → Bool → List Int → Bool → Bool → Int → List (S84) → Int → List (S33) → Option (Bool)
  | 0, _, _, _, _, _, _, _, _, _, _, _ => none
  | k + 1, x1, x2, x8, x9, x11, x12, x48, x780000, x780001, x794000, x794001 => if x48 = true then (some false) else ((laws_toNet.f k x780000 x780001).bind fun bt799 => ((laws_eqNet.f k x794000 x794001 bt799.1 bt799.2).bind fun t803 => (if t803 = true then ((laws_markNet.f k x794000 x794001 1).bind fun bt804 => (if bt804.1 < 0 then (laws_FnExactNearWalk.j1 k x1 x2 x8 x9 x11 true x780000 x780001) else ((laws_eqIntS.f k x11 x8).bind fun t806 => (if t806 = true then (laws_FnExactNearWalk.j1 k x1 x2 x8 x9 x11 (x12 != x9) x780000 x780001) else (laws_FnExactNearWalk.j1 k x1 x2 x8 x9 x11 true x780000 x780001))))) else (some false))))
def laws_FnExactNearWalk.j1 : Nat → Int → Int → List Int → Bool → List Int → Bool → Int → List (S84) → Option (Bool)
  | 0, _, _, _, _, _, _, _, _ => none
  | k + 1, x1, x2, x8, x9, x11, x69, x780000, x780001 => if x69 = true then (some false) else ((laws_markIntS.f k x11 1).bind fun bt807 => ((laws_heldIntS.f k bt807.2 1).bind fun t809 => (if t809 < 0 then (some false) else (if t809 = bt807.1 then ((laws_toNet.f k x780000 x780001).bind fun bt810 => ((impl_NearWalk.f k bt810.1 bt810.2 x1 x2).bind fun bt814 => ((laws_eqIntS.f k bt814.1 x8).bind fun t818 => (if t818 = true then (laws_FnExactNearWalk.j2 k bt807.2 bt807.1 (bt814.2 != x9)) else (laws_FnExactNearWalk.j2 k bt807.2 bt807.1 true))))) else (some false)))))
def laws_FnExactNearWalk.j2 : Nat → List Int → Int → Bool → Option (Bool)
  | 0, _, _, _ => none
  | k + 1, x11, x14, x97 => if x97 = true then (some false) else ((laws_heldIntS.f k x11 1).bind fun t819 => (if t819 < 0 then (some false) else (if t819 = x14 then (some true) else (some false))))
end
def laws_FnExactNearWalk.f (k : Nat) (a0_0 : Int) (l0_1 : List (S84)) (a1 : Int) (a2 : Int) : Option (Bool) := (laws_szNet.f a0_0 l0_1 1048576).bind fun t780 => (if t780 < 0 then (some true) else ((laws_toNet.f k a0_0 l0_1).bind fun bt781 => ((spec_NearWalk.f k bt781.1 bt781.2 a1 a2).bind fun bt785 => ((laws_toNet.f k a0_0 l0_1).bind fun bt789 => ((impl_NearWalk.f k bt789.1 bt789.2 a1 a2).bind fun bt794 => ((laws_eqIntS.f k bt794.1 bt785.1).bind fun t798 => (if t798 = true then (laws_FnExactNearWalk.j0 k a1 a2 bt785.1 bt785.2 bt794.1 bt794.2 (bt794.2 != bt785.2) a0_0 l0_1 bt789.1 bt789.2) else (laws_FnExactNearWalk.j0 k a1 a2 bt785.1 bt785.2 bt794.1 bt794.2 true a0_0 l0_1 bt789.1 bt789.2))))))))
theorem laws_FnExactNearWalk.mono_l : ∀ k, (∀ y0 y1 y2 y3 y4 y5 y6 y7 y8 y9 y10, LeO (laws_FnExactNearWalk.j0 k y0 y1 y2 y3 y4 y5 y6 y7 y8 y9 y10) (laws_FnExactNearWalk.j0 (k + 1) y0 y1 y2 y3 y4 y5 y6 y7 y8 y9 y10)) ∧ (∀ y0 y1 y2 y3 y4 y5 y6 y7, LeO (laws_FnExactNearWalk.j1 k y0 y1 y2 y3 y4 y5 y6 y7) (laws_FnExactNearWalk.j1 (k + 1) y0 y1 y2 y3 y4 y5 y6 y7)) ∧ (∀ y0 y1 y2, LeO (laws_FnExactNearWalk.j2 k y0 y1 y2) (laws_FnExactNearWalk.j2 (k + 1) y0 y1 y2))
  | 0 => ⟨fun _ _ _ _ _ _ _ _ _ _ _ r h => by simp [laws_FnExactNearWalk.j0] at h, fun _ _ _ _ _ _ _ _ r h => by simp [laws_FnExactNearWalk.j1] at h, fun _ _ _ r h => by simp [laws_FnExactNearWalk.j2] at h⟩
  | k + 1 => by
    obtain ⟨ih0, ih1, ih2⟩ := laws_FnExactNearWalk.mono_l k
    refine ⟨?_, ?_, ?_⟩
    · intro y0 y1 y2 y3 y4 y5 y6 y7 y8 y9 y10
      unfold laws_FnExactNearWalk.j0
      repeat' first | (with_reducible first | exact ih0 _ _ _ _ _ _ _ _ _ _ _ | exact ih1 _ _ _ _ _ _ _ _ | exact ih2 _ _ _ | exact impl_NearWalk.mono _ _ _ _ _ | exact laws_eqIntS.mono _ _ _ | exact laws_eqNet.mono _ _ _ _ _ | exact laws_heldIntS.mono _ _ _ | exact laws_markIntS.mono _ _ _ | exact laws_markNet.mono _ _ _ _ | exact laws_toNet.mono _ _ _ | exact spec_NearWalk.mono _ _ _ _ _ | exact LeO.refl _ | exact LeO.none _ | refine LeO.ite ?_ ?_ | refine LeO.bind ?_ (fun _ => ?_)) | exact ih0 _ _ _ _ _ _ _ _ _ _ _ | exact ih1 _ _ _ _ _ _ _ _ | exact ih2 _ _ _ | exact impl_NearWalk.mono _ _ _ _ _ | exact laws_eqIntS.mono _ _ _ | exact laws_eqNet.mono _ _ _ _ _ | exact laws_heldIntS.mono _ _ _ | exact laws_markIntS.mono _ _ _ | exact laws_markNet.mono _ _ _ _ | exact laws_toNet.mono _ _ _ | exact spec_NearWalk.mono _ _ _ _ _ | exact LeO.none _ | refine LeO.ite ?_ ?_ | refine LeO.bind ?_ (fun _ => ?_)
    · intro y0 y1 y2 y3 y4 y5 y6 y7
      unfold laws_FnExactNearWalk.j1
      repeat' first | (with_reducible first | exact ih0 _ _ _ _ _ _ _ _ _ _ _ | exact ih1 _ _ _ _ _ _ _ _ | exact ih2 _ _ _ | exact impl_NearWalk.mono _ _ _ _ _ | exact laws_eqIntS.mono _ _ _ | exact laws_eqNet.mono _ _ _ _ _ | exact laws_heldIntS.mono _ _ _ | exact laws_markIntS.mono _ _ _ | exact laws_markNet.mono _ _ _ _ | exact laws_toNet.mono _ _ _ | exact spec_NearWalk.mono _ _ _ _ _ | exact LeO.refl _ | exact LeO.none _ | refine LeO.ite ?_ ?_ | refine LeO.bind ?_ (fun _ => ?_)) | exact ih0 _ _ _ _ _ _ _ _ _ _ _ | exact ih1 _ _ _ _ _ _ _ _ | exact ih2 _ _ _ | exact impl_NearWalk.mono _ _ _ _ _ | exact laws_eqIntS.mono _ _ _ | exact laws_eqNet.mono _ _ _ _ _ | exact laws_heldIntS.mono _ _ _ | exact laws_markIntS.mono _ _ _ | exact laws_markNet.mono _ _ _ _ | exact laws_toNet.mono _ _ _ | exact spec_NearWalk.mono _ _ _ _ _ | exact LeO.none _ | refine LeO.ite ?_ ?_ | refine LeO.bind ?_ (fun _ => ?_)
    · intro y0 y1 y2
      unfold laws_FnExactNearWalk.j2
      repeat' first | (with_reducible first | exact ih0 _ _ _ _ _ _ _ _ _ _ _ | exact ih1 _ _ _ _ _ _ _ _ | exact ih2 _ _ _ | exact impl_NearWalk.mono _ _ _ _ _ | exact laws_eqIntS.mono _ _ _ | exact laws_eqNet.mono _ _ _ _ _ | exact laws_heldIntS.mono _ _ _ | exact laws_markIntS.mono _ _ _ | exact laws_markNet.mono _ _ _ _ | exact laws_toNet.mono _ _ _ | exact spec_NearWalk.mono _ _ _ _ _ | exact LeO.refl _ | exact LeO.none _ | refine LeO.ite ?_ ?_ | refine LeO.bind ?_ (fun _ => ?_)) | exact ih0 _ _ _ _ _ _ _ _ _ _ _ | exact ih1 _ _ _ _ _ _ _ _ | exact ih2 _ _ _ | exact impl_NearWalk.mono _ _ _ _ _ | exact laws_eqIntS.mono _ _ _ | exact laws_eqNet.mono _ _ _ _ _ | exact laws_heldIntS.mono _ _ _ | exact laws_markIntS.mono _ _ _ | exact laws_markNet.mono _ _ _ _ | exact laws_toNet.mono _ _ _ | exact spec_NearWalk.mono _ _ _ _ _ | exact LeO.none _ | refine LeO.ite ?_ ?_ | refine LeO.bind ?_ (fun _ => ?_)
theorem laws_FnExactNearWalk.mono : ∀ a0 a1 a2 a3 k, LeO (laws_FnExactNearWalk.f k a0 a1 a2 a3) (laws_FnExactNearWalk.f (k + 1) a0 a1 a2 a3) := by
  intro a0 a1 a2 a3 k
  obtain ⟨ih0, ih1, ih2⟩ := laws_FnExactNearWalk.mono_l k
  unfold laws_FnExactNearWalk.f
  repeat' first | (with_reducible first | exact ih0 _ _ _ _ _ _ _ _ _ _ _ | exact ih1 _ _ _ _ _ _ _ _ | exact ih2 _ _ _ | exact impl_NearWalk.mono _ _ _ _ _ | exact laws_eqIntS.mono _ _ _ | exact laws_eqNet.mono _ _ _ _ _ | exact laws_heldIntS.mono _ _ _ | exact laws_markIntS.mono _ _ _ | exact laws_markNet.mono _ _ _ _ | exact laws_toNet.mono _ _ _ | exact spec_NearWalk.mono _ _ _ _ _ | exact LeO.refl _ | exact LeO.none _ | refine LeO.ite ?_ ?_ | refine LeO.bind ?_ (fun _ => ?_)) | exact ih0 _ _ _ _ _ _ _ _ _ _ _ | exact ih1 _ _ _ _ _ _ _ _ | exact ih2 _ _ _ | exact impl_NearWalk.mono _ _ _ _ _ | exact laws_eqIntS.mono _ _ _ | exact laws_eqNet.mono _ _ _ _ _ | exact laws_heldIntS.mono _ _ _ | exact laws_markIntS.mono _ _ _ | exact laws_markNet.mono _ _ _ _ | exact laws_toNet.mono _ _ _ | exact spec_NearWalk.mono _ _ _ _ _ | exact LeO.none _ | refine LeO.ite ?_ ?_ | refine LeO.bind ?_ (fun _ => ?_)
set_option maxHeartbeats 200000000 in
set_option maxRecDepth 100000 in
theorem laws_FnExactNearWalk.calls (k : Nat) (a0_0 : Int) (A0_1 : Option Addr) (c0_1 : Nat) (l0_1 : List (S84)) (a1 : Int) (a2 : Int) (r : Bool) (w : World) (hr0_1 : Kd.C k84 w A0_1 l0_1.length l0_1) (hc0_1 : l0_1.length ≤ c0_1) (h : laws_FnExactNearWalk.f k a0_0 l0_1 a1 a2 = some r) :
    Calls Try.prog 11 #[.agg #[.int .i64 a0_0, .slice A0_1 l0_1.length c0_1], .int .i64 a1, .int .i64 a2] w fun e w' => e = .returned (.bool r) ∧ Below w.heap.size w w' := by
  have hu39 := Try.underlying39
  have hu25 := Try.underlying25
  have HR0_1 := Aside0.mk hr0_1
  have HC0_1 := Aside0.mk hc0_1
  clear hr0_1 hc0_1
  have HB := Aside0.mk (Below.refl w.heap.size w)
  have H : ((laws_szNet.f a0_0 l0_1 1048576).bind fun t780 => (if t780 < 0 then (some true) else ((laws_toNet.f k a0_0 l0_1).bind fun bt781 => ((spec_NearWalk.f k bt781.1 bt781.2 a1 a2).bind fun bt785 => ((laws_toNet.f k a0_0 l0_1).bind fun bt789 => ((impl_NearWalk.f k bt789.1 bt789.2 a1 a2).bind fun bt794 => ((laws_eqIntS.f k bt794.1 bt785.1).bind fun t798 => (if t798 = true then (laws_FnExactNearWalk.j0 k a1 a2 bt785.1 bt785.2 bt794.1 bt794.2 (bt794.2 != bt785.2) a0_0 l0_1 bt789.1 bt789.2) else (laws_FnExactNearWalk.j0 k a1 a2 bt785.1 bt785.2 bt794.1 bt794.2 true a0_0 l0_1 bt789.1 bt789.2))))))))) = some r := h
  clear h
  replace H := Option.bind_eq_some_iff.mp H
  obtain ⟨t780, A40, H⟩ := H
  replace H : (if t780 < 0 then (some true) else ((laws_toNet.f k a0_0 l0_1).bind fun bt781 => ((spec_NearWalk.f k bt781.1 bt781.2 a1 a2).bind fun bt785 => ((laws_toNet.f k a0_0 l0_1).bind fun bt789 => ((impl_NearWalk.f k bt789.1 bt789.2 a1 a2).bind fun bt794 => ((laws_eqIntS.f k bt794.1 bt785.1).bind fun t798 => (if t798 = true then (laws_FnExactNearWalk.j0 k a1 a2 bt785.1 bt785.2 bt794.1 bt794.2 (bt794.2 != bt785.2) a0_0 l0_1 bt789.1 bt789.2) else (laws_FnExactNearWalk.j0 k a1 a2 bt785.1 bt785.2 bt794.1 bt794.2 true a0_0 l0_1 bt789.1 bt789.2)))))))) = some r := H
  have A4 := Aside0.mk A40
  clear A40
  by_cases c5 : t780 < 0
  ·rw [if_pos c5] at H
   have c5b0 : decide (t780 < 0) = true := decide_eq_true c5
   clear c5
   obtain rfl := Option.some.inj H
   go_enter Try.func11, Try.ntmps11
   go_wp2_with (first | ((with_reducible refine gate_dst (N := 3) rfl ?_); refine bx_ 3 #[.int .i64 a0_0, .slice A0_1 l0_1.length c0_1] 39 ?_; intro gb779 hg w6 hbox hb; have BK779 := Aside0.mk (hbox); have GW779 := Aside0.mk (zs_ hg (ne_ HB.out)); have GE779 := Aside0.mk (zs_ hg (ne_ HB.out)); replace HB := kB_ HB hb; clear hb hbox hg; obtain ⟨hcz7_0, hcz7_1, hfz7_0, hfz7_1⟩ := cz2_ BK779.out) | ((with_reducible refine gate_callee (f := 21) rfl ?_); refine gl_ (some 20) Try.func21 #[.agg #[.int .i64 a0_0, .slice A0_1 l0_1.length c0_1], .int .i64 1048576] ?_; (with_reducible refine (laws_szNet.calls a0_0 _ _ l0_1 1048576 t780 _ ?side1 ?side2 A4.out).mono ?_); (case side1 => exact nc_ (Kd.C_below HR0_1.out HB.out)); (case side2 => exact HC0_1.out); rintro e w8 ⟨rfl, hb⟩; refine ⟨_, rfl, ?_⟩; replace BK779 := kb_ BK779 hb; replace HB := kB_ HB hb; (try clear hb); (try clear hb2); (try clear hk); (try clear hi)))
   go_ret
   exact ⟨nw_, ne_ HB.out⟩
  rw [if_neg c5] at H
  have c5b0 : decide (t780 < 0) = false := decide_eq_false c5
  clear c5
  replace H := Option.bind_eq_some_iff.mp H
  obtain ⟨⟨t781, t782⟩, A90, H⟩ := H
  replace H : ((spec_NearWalk.f k t781 t782 a1 a2).bind fun bt785 => ((laws_toNet.f k a0_0 l0_1).bind fun bt789 => ((impl_NearWalk.f k bt789.1 bt789.2 a1 a2).bind fun bt794 => ((laws_eqIntS.f k bt794.1 bt785.1).bind fun t798 => (if t798 = true then (laws_FnExactNearWalk.j0 k a1 a2 bt785.1 bt785.2 bt794.1 bt794.2 (bt794.2 != bt785.2) a0_0 l0_1 bt789.1 bt789.2) else (laws_FnExactNearWalk.j0 k a1 a2 bt785.1 bt785.2 bt794.1 bt794.2 true a0_0 l0_1 bt789.1 bt789.2)))))) = some r := H
  have A9 := Aside0.mk A90
  clear A90
  replace H := Option.bind_eq_some_iff.mp H
  obtain ⟨⟨t785, t788⟩, A100, H⟩ := H
  replace H : ((laws_toNet.f k a0_0 l0_1).bind fun bt789 => ((impl_NearWalk.f k bt789.1 bt789.2 a1 a2).bind fun bt794 => ((laws_eqIntS.f k bt794.1 t785).bind fun t798 => (if t798 = true then (laws_FnExactNearWalk.j0 k a1 a2 t785 t788 bt794.1 bt794.2 (bt794.2 != t788) a0_0 l0_1 bt789.1 bt789.2) else (laws_FnExactNearWalk.j0 k a1 a2 t785 t788 bt794.1 bt794.2 true a0_0 l0_1 bt789.1 bt789.2))))) = some r := H
  have A10 := Aside0.mk A100
  clear A100
  replace H := Option.bind_eq_some_iff.mp H
  obtain ⟨⟨t789, t790⟩, A110, H⟩ := H
  replace H : ((impl_NearWalk.f k t789 t790 a1 a2).bind fun bt794 => ((laws_eqIntS.f k bt794.1 t785).bind fun t798 => (if t798 = true then (laws_FnExactNearWalk.j0 k a1 a2 t785 t788 bt794.1 bt794.2 (bt794.2 != t788) a0_0 l0_1 t789 t790) else (laws_FnExactNearWalk.j0 k a1 a2 t785 t788 bt794.1 bt794.2 true a0_0 l0_1 t789 t790)))) = some r := H
  have A11 := Aside0.mk A110
  clear A110
  replace H := Option.bind_eq_some_iff.mp H
  obtain ⟨⟨t794, t797⟩, A120, H⟩ := H
  replace H : ((laws_eqIntS.f k t794 t785).bind fun t798 => (if t798 = true then (laws_FnExactNearWalk.j0 k a1 a2 t785 t788 t794 t797 (t797 != t788) a0_0 l0_1 t789 t790) else (laws_FnExactNearWalk.j0 k a1 a2 t785 t788 t794 t797 true a0_0 l0_1 t789 t790))) = some r := H
  have A12 := Aside0.mk A120
  clear A120
  have HC13 := Aside0.mk H
  clear H
  go_enter Try.func11, Try.ntmps11
  go_upto_region 8 with (first | ((with_reducible refine gate_dst (N := 3) rfl ?_); refine bx_ 3 #[.int .i64 a0_0, .slice A0_1 l0_1.length c0_1] 39 ?_; intro gb779 hg w14 hbox hb; have BK779 := Aside0.mk (hbox); have GW779 := Aside0.mk (zs_ hg (ne_ HB.out)); have GE779 := Aside0.mk (zs_ hg (ne_ HB.out)); replace HB := kB_ HB hb; clear hb hbox hg; obtain ⟨hcz15_0, hcz15_1, hfz15_0, hfz15_1⟩ := cz2_ BK779.out) | ((with_reducible refine gate_callee (f := 21) rfl ?_); refine gl_ (some 20) Try.func21 #[.agg #[.int .i64 a0_0, .slice A0_1 l0_1.length c0_1], .int .i64 1048576] ?_; (with_reducible refine (laws_szNet.calls a0_0 _ _ l0_1 1048576 t780 _ ?side1 ?side2 A4.out).mono ?_); (case side1 => exact nc_ (Kd.C_below HR0_1.out HB.out)); (case side2 => exact HC0_1.out); rintro e w16 ⟨rfl, hb⟩; refine ⟨_, rfl, ?_⟩; replace BK779 := kb_ BK779 hb; replace HB := kB_ HB hb; (try clear hb); (try clear hb2); (try clear hk); (try clear hi); obtain ⟨hcz17_0, hcz17_1, hfz17_0, hfz17_1⟩ := cz2_ BK779.out) | ((with_reducible refine gate_callee (f := 22) rfl ?_); refine gl_ (some 25) Try.func22 #[.agg #[.int .i64 a0_0, .slice A0_1 l0_1.length c0_1]] ?_; (with_reducible refine (laws_toNet.calls k a0_0 _ _ l0_1 t781 t782 _ ?side1 ?side2 A9.out).mono ?_); (case side1 => exact nc_ (Kd.C_below HR0_1.out HB.out)); (case side2 => exact HC0_1.out); rintro e w18 ⟨v783, rfl, ho0, hb⟩; refine ⟨_, rfl, ?_⟩; have HO784 := Aside0.mk (Kd.R_lower ho0 (below_size (ne_ HB.out))); replace BK779 := kb_ BK779 hb; replace HB := kB_ HB hb; (try clear hb); (try clear hb2); (try clear hk); (try clear hi); (try clear ho0); obtain ⟨Ao19, co19, eo19⟩ := Kd.R_slice HO784.out; subst eo19) | ((with_reducible refine gate_callee (f := 30) rfl ?_); refine gl_ (some 28) Try.func30 #[.agg #[.int .i64 t781, .slice Ao19 t782.length co19], .int .i64 a1, .int .i64 a2] ?_; (with_reducible refine (spec_NearWalk.calls k t781 _ _ t782 a1 a2 t785 t788 _ ?side1 ?side2 A10.out).mono ?_); (case side1 => exact nc_ (rR11 HO784.out).2.2); (case side2 => exact (rR11 HO784.out).2.1); rintro e w20 ⟨v786, rfl, ho0, hb⟩; refine ⟨_, rfl, ?_⟩; have HO787 := Aside0.mk (Kd.R_lower ho0 (below_size (ne_ HB.out))); replace HO784 := kR_ HO784 hb; replace BK779 := kb_ BK779 hb; replace HB := kB_ HB hb; (try clear hb); (try clear hb2); (try clear hk); (try clear hi); (try clear ho0); obtain ⟨hcz21_0, hcz21_1, hfz21_0, hfz21_1⟩ := cz2_ BK779.out) | ((with_reducible refine gate_callee (f := 22) rfl ?_); refine gl_ (some 32) Try.func22 #[.agg #[.int .i64 a0_0, .slice A0_1 l0_1.length c0_1]] ?_; (with_reducible refine (laws_toNet.calls k a0_0 _ _ l0_1 t789 t790 _ ?side1 ?side2 A11.out).mono ?_); (case side1 => exact nc_ (Kd.C_below HR0_1.out HB.out)); (case side2 => exact HC0_1.out); rintro e w22 ⟨v791, rfl, ho0, hb⟩; refine ⟨_, rfl, ?_⟩; have HO792 := Aside0.mk (Kd.R_lower (Kd.R_new' ho0 (Kd.R_lt (nr_ HO784.out))) (below_size (ne_ HB.out))); replace HO784 := Aside0.mk (Kd.R_elder' (nr_ HO784.out) (Kd.R_base ho0) hb); replace HO787 := kR_ HO787 hb; replace BK779 := kb_ BK779 hb; replace HB := kB_ HB hb; (try clear hb); (try clear hb2); (try clear hk); (try clear hi); (try clear ho0)) | ((with_reducible refine gate_dst (N := 10) rfl ?_); refine bx_ 10 #[.int .i64 0, .slice none 0 0] 25 ?_; intro gb793 hg w23 hbox hb; have BK793 := Aside0.mk (hbox); have GW793 := Aside0.mk (zs_ hg (ne_ HB.out)); have GE793 := Aside0.mk (zs_ hg (ne_ HB.out)); have NB779_793 := Aside0.mk (nl_ BK779.out hg); have NB793_779 := Aside0.mk (nm_ BK779.out hg); replace HO784 := kR_ HO784 hb; replace HO787 := kR_ HO787 hb; replace HO792 := kR_ HO792 hb; replace BK779 := kb_ BK779 hb; replace HB := kB_ HB hb; clear hb hbox hg; have hnb24 := NB793_779.out; have hnc24 := NB779_793.out; obtain ⟨hcz25_0, hcz25_1, hfz25_0, hfz25_1⟩ := cz2_ BK793.out; obtain ⟨Ao26, co26, eo26⟩ := Kd.R_slice HO792.out; subst eo26) | ((with_reducible refine gate_callee (f := 29) rfl ?_); refine gl_ (some 37) Try.func29 #[.agg #[.int .i64 t789, .slice Ao26 t790.length co26], .int .i64 a1, .int .i64 a2] ?_; (with_reducible refine (impl_NearWalk.calls k t789 _ _ t790 a1 a2 t794 t797 _ ?side1 ?side2 A12.out).mono ?_); (case side1 => refine (rR11 (e := 33) (base := w.heap.size) (ok := fun k_ => (True ∧ some k_ ≠ (.slice Ao19 t782.length co19 : Value).ownBlock)) (n := t790.length) (c := co26) ?_).2.2; exact (by (with_reducible repeat (first | apply Kd.R_alloc | apply Kd.R_drewN | apply Kd.R_drew)); exact (Kd.R_mono (rf2_ (Kd.R_types HO792.out BK793.out (by decide))) (fun _ h_ => h_.1)))); (case side2 => exact (rR11 HO792.out).2.1); rintro e w27 ⟨v795, rfl, ho0, hb⟩; refine ⟨_, rfl, ?_⟩; have HO796 := Aside0.mk (Kd.R_lower (Kd.R_new' ho0 (Kd.R_lt (by (with_reducible repeat (first | apply Kd.R_alloc | apply Kd.R_drewN | apply Kd.R_drew)); exact (Kd.R_mono (rf2_ (Kd.R_types HO787.out BK793.out (by decide))) (fun _ h_ => h_.1))))) (below_size (ne_ HB.out))); replace HO784 := Aside0.mk (Kd.R_below (by (with_reducible repeat (first | apply Kd.R_alloc | apply Kd.R_drewN | apply Kd.R_drew)); exact (Kd.R_mono (rf2_ (Kd.R_types HO784.out BK793.out (by decide))) (fun _ h_ => h_.1))) hb); replace HO787 := Aside0.mk (Kd.R_elder' (by (with_reducible repeat (first | apply Kd.R_alloc | apply Kd.R_drewN | apply Kd.R_drew)); exact (Kd.R_mono (rf2_ (Kd.R_types HO787.out BK793.out (by decide))) (fun _ h_ => h_.1))) (Kd.R_base ho0) hb); replace HO792 := Aside0.mk (Kd.R_below (by (with_reducible repeat (first | apply Kd.R_alloc | apply Kd.R_drewN | apply Kd.R_drew)); exact (Kd.R_mono (rf2_ (Kd.R_types HO792.out BK793.out (by decide))) (fun _ h_ => h_.1))) hb); replace BK779 := kf_ BK779 hb; replace BK793 := Aside0.mk (blk_below (g := gb793) (o := .cells #[.int .i64 t789, .slice Ao26 t790.length co26] 25 (0, 0)) (np_ BK793.out) hb); replace HB := kB_ HB hb; (try clear hb); (try clear hb2); (try clear hk); (try clear hi); (try clear ho0)))
  (try simp only [Act.put, List.setIfInBounds_toArray, List.set_cons_zero, List.set_cons_succ])
  go_cut [48] (fun v48 wc => ∃ (kq : Nat) (x48_12 : Bool), v48 = .bool x48_12 ∧ Aside0 (laws_FnExactNearWalk.j0 kq a1 a2 t785 t788 t794 t797 x48_12 a0_0 l0_1 t789 t790 = some r) ∧ Aside0 (kq ≤ k) ∧ Aside0 (Kd.R (Kd.int .i64) 3 wc w.heap.size (fun k_ => some k_ ≠ (v795 : Value).ownBlock) v786 t785) ∧ Aside0 (Kd.R (Kd.int .i64) 3 wc w.heap.size (fun k_ => some k_ ≠ (v786 : Value).ownBlock) v795 t794) ∧ Aside0 (Kd.R k33 33 wc w.heap.size (fun _ => True) (.slice Ao26 t790.length co26) t790) ∧ Aside0 (wc.heap[gb779]? = some (.cells #[.int .i64 a0_0, (.slice A0_1 l0_1.length c0_1)] 39 (0, 0))) ∧ Aside0 (wc.heap[gb793]? = some (.cells #[.int .i64 t789, (.slice Ao26 t790.length co26)] 25 (0, 0))) ∧ Aside0 (Below w.heap.size w wc))
  case first =>
   have H := HC13.out
   clear HC13
   replace H := Option.bind_eq_some_iff.mp H
   obtain ⟨t798, A280, H⟩ := H
   replace H : (if t798 = true then (laws_FnExactNearWalk.j0 k a1 a2 t785 t788 t794 t797 (t797 != t788) a0_0 l0_1 t789 t790) else (laws_FnExactNearWalk.j0 k a1 a2 t785 t788 t794 t797 true a0_0 l0_1 t789 t790)) = some r := H
   have A28 := Aside0.mk A280
   clear A280
   by_cases c29 : t798 = true
   ·subst c29
    have H1 : (laws_FnExactNearWalk.j0 k a1 a2 t785 t788 t794 t797 (t797 != t788) a0_0 l0_1 t789 t790) = some r := by rw [if_pos rfl] at H; exact H
    clear H
    have H := H1
    clear H1
    have H' := Aside0.mk H
    clear H
    obtain ⟨Ao30, co30, eo30⟩ := Kd.R_slice HO796.out
    subst eo30
    obtain ⟨Ao31, co31, eo31⟩ := Kd.R_slice HO787.out
    subst eo31
    go_wp2_with (first | ((with_reducible refine gate_callee (f := 23) rfl ?_); refine gl_ (some 42) Try.func23 #[.slice Ao30 t794.length co30, .slice Ao31 t785.length co31] ?_; (with_reducible refine (laws_eqIntS.calls k _ _ t794 _ _ t785 true _ ?side1 ?side2 ?side3 ?side4 A28.out).mono ?_); (case side1 => exact nc_ (rR11 HO796.out).2.2); (case side2 => exact (rR11 HO796.out).2.1); (case side3 => exact nc_ (rR11 HO787.out).2.2); (case side4 => exact (rR11 HO787.out).2.1); rintro e w' ⟨rfl, ⟨nd, rfl⟩⟩; refine ⟨_, rfl, ?_⟩))
    go_meet
    case rel => exact ⟨_, ((t797 != t788)), ns_, H', ⟨by first | omega | exact Nat.le_refl _⟩, ⟨by (with_reducible repeat (first | apply Kd.R_alloc | apply Kd.R_drewN | apply Kd.R_drew)); exact Kd.R_mono HO787.out (fun _ hk => by first | exact hk.2 | trivial | simp_all)⟩, ⟨by (with_reducible repeat (first | apply Kd.R_alloc | apply Kd.R_drewN | apply Kd.R_drew)); exact Kd.R_mono HO796.out (fun _ hk => by first | exact hk.2 | trivial | simp_all)⟩, ⟨by (with_reducible repeat (first | apply Kd.R_alloc | apply Kd.R_drewN | apply Kd.R_drew)); exact Kd.R_mono HO792.out (fun _ hk => trivial)⟩, ⟨nb_ BK779.out⟩, ⟨nb_ BK793.out⟩, ⟨ne_ HB.out⟩⟩
   replace c29 := Bool.eq_false_iff.mpr c29
   subst c29
   have H1 : (laws_FnExactNearWalk.j0 k a1 a2 t785 t788 t794 t797 true a0_0 l0_1 t789 t790) = some r := by rw [if_neg (show ¬ (false = true) by decide)] at H; exact H
   clear H
   have H := H1
   clear H1
   have H' := Aside0.mk H
   clear H
   obtain ⟨Ao32, co32, eo32⟩ := Kd.R_slice HO796.out
   subst eo32
   obtain ⟨Ao33, co33, eo33⟩ := Kd.R_slice HO787.out
   subst eo33
   go_wp2_with (first | ((with_reducible refine gate_callee (f := 23) rfl ?_); refine gl_ (some 42) Try.func23 #[.slice Ao32 t794.length co32, .slice Ao33 t785.length co33] ?_; (with_reducible refine (laws_eqIntS.calls k _ _ t794 _ _ t785 false _ ?side1 ?side2 ?side3 ?side4 A28.out).mono ?_); (case side1 => exact nc_ (rR11 HO796.out).2.2); (case side2 => exact (rR11 HO796.out).2.1); (case side3 => exact nc_ (rR11 HO787.out).2.2); (case side4 => exact (rR11 HO787.out).2.1); rintro e w' ⟨rfl, ⟨nd, rfl⟩⟩; refine ⟨_, rfl, ?_⟩))
   go_meet
   case rel => exact ⟨_, (true), ns_, H', ⟨by first | omega | exact Nat.le_refl _⟩, ⟨by (with_reducible repeat (first | apply Kd.R_alloc | apply Kd.R_drewN | apply Kd.R_drew)); exact Kd.R_mono HO787.out (fun _ hk => by first | exact hk.2 | trivial | simp_all)⟩, ⟨by (with_reducible repeat (first | apply Kd.R_alloc | apply Kd.R_drewN | apply Kd.R_drew)); exact Kd.R_mono HO796.out (fun _ hk => by first | exact hk.2 | trivial | simp_all)⟩, ⟨by (with_reducible repeat (first | apply Kd.R_alloc | apply Kd.R_drewN | apply Kd.R_drew)); exact Kd.R_mono HO792.out (fun _ hk => trivial)⟩, ⟨nb_ BK779.out⟩, ⟨nb_ BK793.out⟩, ⟨ne_ HB.out⟩⟩
  case rest =>
   clear HC13
   try clear c1
   try clear c2
   try clear p2
   try clear c3
   try clear c5
   try clear c5b0
   try clear c11
   try clear c21
   try clear c22
   try clear c23
   try clear c24
   try clear c29
   try clear c30
   try clear hcz15_0
   try clear hcz15_1
   try clear hcz17_0
   try clear hcz17_1
   try clear hcz21_0
   try clear hcz21_1
   try clear hcz25_0
   try clear hcz25_1
   try clear hcz7_0
   try clear hcz7_1
   try clear hfz15_0
   try clear hfz15_1
   try clear hfz17_0
   try clear hfz17_1
   try clear hfz21_0
   try clear hfz21_1
   try clear hfz25_0
   try clear hfz25_1
   try clear hfz7_0
   try clear hfz7_1
   obtain ⟨kq, x48_12, rfl, HA, HJ12, HO_8, HO_11, HO_794001, BK779, BK793, HB⟩ := hcut
   cases kq with
   | zero => exact absurd HA.out (by simp [laws_FnExactNearWalk.j0])
   | succ kj12 =>
    have H := HA.out
    clear HA
    simp only [laws_FnExactNearWalk.j0] at H
    by_cases c34 : x48_12 = true
    ·subst c34
     have H1 : (some false) = some r := by rw [if_pos rfl] at H; exact H
     clear H
     have H := H1
     clear H1
     obtain rfl := Option.some.inj H
     go_wp2
     go_ret
     exact ⟨nw_, ne_ HB.out⟩
    replace c34 := Bool.eq_false_iff.mpr c34
    subst c34
    have H1 : ((laws_toNet.f kj12 a0_0 l0_1).bind fun bt799 => ((laws_eqNet.f kj12 t789 t790 bt799.1 bt799.2).bind fun t803 => (if t803 = true then ((laws_markNet.f kj12 t789 t790 1).bind fun bt804 => (if bt804.1 < 0 then (laws_FnExactNearWalk.j1 kj12 a1 a2 t785 t788 t794 true a0_0 l0_1) else ((laws_eqIntS.f kj12 t794 t785).bind fun t806 => (if t806 = true then (laws_FnExactNearWalk.j1 kj12 a1 a2 t785 t788 t794 (t797 != t788) a0_0 l0_1) else (laws_FnExactNearWalk.j1 kj12 a1 a2 t785 t788 t794 true a0_0 l0_1))))) else (some false)))) = some r := by rw [if_neg (show ¬ (false = true) by decide)] at H; exact H
    clear H
    have H := H1
    clear H1
    replace H := Option.bind_eq_some_iff.mp H
    obtain ⟨⟨t799, t800⟩, A350, H⟩ := H
    replace H : ((laws_eqNet.f kj12 t789 t790 t799 t800).bind fun t803 => (if t803 = true then ((laws_markNet.f kj12 t789 t790 1).bind fun bt804 => (if bt804.1 < 0 then (laws_FnExactNearWalk.j1 kj12 a1 a2 t785 t788 t794 true a0_0 l0_1) else ((laws_eqIntS.f kj12 t794 t785).bind fun t806 => (if t806 = true then (laws_FnExactNearWalk.j1 kj12 a1 a2 t785 t788 t794 (t797 != t788) a0_0 l0_1) else (laws_FnExactNearWalk.j1 kj12 a1 a2 t785 t788 t794 true a0_0 l0_1))))) else (some false))) = some r := H
    have A35 := Aside0.mk A350
    clear A350
    replace H := Option.bind_eq_some_iff.mp H
    obtain ⟨t803, A360, H⟩ := H
    replace H : (if t803 = true then ((laws_markNet.f kj12 t789 t790 1).bind fun bt804 => (if bt804.1 < 0 then (laws_FnExactNearWalk.j1 kj12 a1 a2 t785 t788 t794 true a0_0 l0_1) else ((laws_eqIntS.f kj12 t794 t785).bind fun t806 => (if t806 = true then (laws_FnExactNearWalk.j1 kj12 a1 a2 t785 t788 t794 (t797 != t788) a0_0 l0_1) else (laws_FnExactNearWalk.j1 kj12 a1 a2 t785 t788 t794 true a0_0 l0_1))))) else (some false)) = some r := H
    have A36 := Aside0.mk A360
    clear A360
    by_cases c37 : t803 = true
    rotate_left
    ·replace c37 := Bool.eq_false_iff.mpr c37
     subst c37
     have H1 : (some false) = some r := by rw [if_neg (show ¬ (false = true) by decide)] at H; exact H
     clear H
     have H := H1
     clear H1
     obtain rfl := Option.some.inj H
     try go_wp2
     have n0_ := Aside0.mk (Kd.R_drew HO_8.out)
     have n1_ := Aside0.mk (Kd.R_drew HO_11.out)
     have n2_ := Aside0.mk (Kd.R_drew HO_794001.out)
     have n3_ := Aside0.mk (blk_drew BK779.out)
     have n4_ := Aside0.mk (blk_drew BK793.out)
     have n5_ := Aside0.mk (below_drew1 HB.out)
     clear HO_8
     clear HO_11
     clear HO_794001
     clear BK779
     clear BK793
     clear HB
     have HO_8 := n0_
     have HO_11 := n1_
     have HO_794001 := n2_
     have BK779 := n3_
     have BK793 := n4_
     have HB := n5_
     clear n0_ n1_ n2_ n3_ n4_ n5_
     refine start_ (n := 5) (S := fun w' => w'.cell? ⟨gb793, 0, none⟩ = some (.int .i64 t789) ∧ w'.cell? ⟨gb793, 1, none⟩ = some (.slice Ao26 t790.length co26) ∧ w'.cell? ⟨gb779, 0, none⟩ = some (.int .i64 a0_0) ∧ w'.cell? ⟨gb779, 1, none⟩ = some (.slice A0_1 l0_1.length c0_1)) (ds := []) #[false, false, false, false, false] (by kernel_rfl) rfl rfl ⟨(blk_cell BK793.out 0).trans rfl, (blk_cell BK793.out 1).trans rfl, (blk_cell BK779.out 0).trans rfl, (blk_cell BK779.out 1).trans rfl⟩ (fun hHeld => ?_)
     generalize wc.drew = w83 at HO_8 HO_11 HO_794001 BK779 BK793 HB hHeld ⊢
     refine take_ (i := 0) (N := some 49) (v := ?_) (a' := ?_) #[true, false, false, false, false] rfl rfl (by kernel_rfl) (fun _ _ _ h => h) (Or.inl ⟨by rfl, ?_⟩) hHeld ?_ ?_
     rotate_left
     ·rintro w' ⟨s0, s1, s2, s3⟩
      go_simp
      with_reducible rfl
     rotate_left
     ·simp only [Act.put, List.setIfInBounds_toArray, List.set_cons_zero, List.set_cons_succ, i64_w, i32_w]
      rfl
     refine take_ (i := 1) (N := some 50) (v := ?_) (a' := ?_) #[true, true, false, false, false] rfl rfl (by kernel_rfl) (fun _ _ _ h => h) (Or.inl ⟨by rfl, ?_⟩) hHeld ?_ ?_
     rotate_left
     ·rintro w' ⟨s0, s1, s2, s3⟩
      go_simp
      with_reducible rfl
     rotate_left
     ·simp only [Act.put, List.setIfInBounds_toArray, List.set_cons_zero, List.set_cons_succ, i64_w, i32_w]
      rfl
     refine one_ (i := 2) (N := some 51) #[true, true, true, false, false] rfl rfl (by kernel_rfl) (by decide) (fun K hK => ?_)
     refine goes_ Try.func22 (by kernel_rfl) rfl #[.agg #[.int .i64 a0_0, .slice A0_1 l0_1.length c0_1]] (by rfl) rfl rfl na_ ?_
     with_reducible refine (laws_toNet.calls kj12 a0_0 _ _ l0_1 t799 t800 _ ?side1 ?side2 A35.out).mono ?_
     (case side1 => exact nc_ (Kd.C_below HR0_1.out HB.out))
     (case side2 => exact HC0_1.out)
     rintro e w84 ⟨v801, rfl, ho0, hb⟩
     refine ⟨_, rfl, ?_⟩
     have n0_ := Aside0.mk (Kd.R_below (nr_ HO_8.out) hb)
     have n1_ := Aside0.mk (Kd.R_below (nr_ HO_11.out) hb)
     have n2_ := Aside0.mk (Kd.R_elder' (nr_ HO_794001.out) (Kd.R_base ho0) hb)
     have n3_ := Aside0.mk (Kd.R_lower (Kd.R_new' ho0 (Kd.R_lt (nr_ HO_794001.out))) (below_size (ne_ HB.out)))
     have n4_ := Aside0.mk (blk_below (g := gb779) (o := .cells #[.int .i64 a0_0, .slice A0_1 l0_1.length c0_1] 39 (0, 0)) (nb_ BK779.out) hb)
     have n5_ := Aside0.mk (blk_below (g := gb793) (o := .cells #[.int .i64 t789, .slice Ao26 t790.length co26] 25 (0, 0)) (nb_ BK793.out) hb)
     have n6_ := Aside0.mk (below_step (ne_ HB.out) hb)
     clear HO_8
     clear HO_11
     clear HO_794001
     clear BK779
     clear BK793
     clear HB
     have HO_8 := n0_
     have HO_11 := n1_
     have HO_794001 := n2_
     have HO802 := n3_
     have BK779 := n4_
     have BK793 := n5_
     have HB := n6_
     clear n0_ n1_ n2_ n3_ n4_ n5_ n6_
     (try clear hb)
     (try clear hb2)
     (try clear hk)
     (try clear hi)
     (try clear ho0)
     obtain ⟨Ao85, co85, eo85⟩ := Kd.R_slice HO802.out
     (first | subst eo85 | (injection eo85 with f1_ f2_ f3_; have f4_ := f1_.symm; have f5_ := f3_.symm; clear f1_ f2_ f3_; subst f4_; subst f5_))
     refine hK.out _ _ ⟨(blk_cell BK793.out 0).trans rfl, (blk_cell BK793.out 1).trans rfl, (blk_cell BK779.out 0).trans rfl, (blk_cell BK779.out 1).trans rfl⟩ (fun hHeld => ?_)
     clear hK K
     refine norm_ (a' := ?_) ?_ ?_
     rotate_left
     ·show Act.put _ (some 51) _ = _
      simp only [Act.put, List.setIfInBounds_toArray, List.set_cons_zero, List.set_cons_succ, i64_w, i32_w]
      rfl
     refine one_ (i := 3) (N := some 52) #[true, true, true, true, false] rfl rfl (by kernel_rfl) (by decide) (fun K hK => ?_)
     refine goes_ Try.func24 (by kernel_rfl) rfl #[.agg #[.int .i64 t789, .slice Ao26 t790.length co26], .agg #[.int .i64 t799, .slice Ao85 t800.length co85]] (by rfl) rfl rfl na_ ?_
     with_reducible refine (laws_eqNet.calls kj12 t789 _ _ t790 t799 _ _ t800 false _ ?side1 ?side2 ?side3 ?side4 A36.out).mono ?_
     (case side1 => exact nc_ (rR11 HO_794001.out).2.2)
     (case side2 => exact (rR11 HO_794001.out).2.1)
     (case side3 => exact nc_ (rR11 HO802.out).2.2)
     (case side4 => exact (rR11 HO802.out).2.1)
     rintro e w86 ⟨rfl, hb⟩
     refine ⟨_, rfl, ?_⟩
     have n0_ := Aside0.mk (Kd.R_below (nr_ HO_8.out) hb)
     have n1_ := Aside0.mk (Kd.R_below (nr_ HO_11.out) hb)
     have n2_ := Aside0.mk (Kd.R_below (nr_ HO_794001.out) hb)
     have n3_ := Aside0.mk (Kd.R_below (nr_ HO802.out) hb)
     have n4_ := Aside0.mk (blk_below (g := gb779) (o := .cells #[.int .i64 a0_0, .slice A0_1 l0_1.length c0_1] 39 (0, 0)) (nb_ BK779.out) hb)
     have n5_ := Aside0.mk (blk_below (g := gb793) (o := .cells #[.int .i64 t789, .slice Ao26 t790.length co26] 25 (0, 0)) (nb_ BK793.out) hb)
     have n6_ := Aside0.mk (below_step (ne_ HB.out) hb)
     clear HO_8
     clear HO_11
     clear HO_794001
     clear HO802
     clear BK779
     clear BK793
     clear HB
     have HO_8 := n0_
     have HO_11 := n1_
     have HO_794001 := n2_
     have HO802 := n3_
     have BK779 := n4_
     have BK793 := n5_
     have HB := n6_
     clear n0_ n1_ n2_ n3_ n4_ n5_ n6_
     (try clear hb)
     (try clear hb2)
     (try clear hk)
     (try clear hi)
     refine hK.out _ _ ⟨(blk_cell BK793.out 0).trans rfl, (blk_cell BK793.out 1).trans rfl, (blk_cell BK779.out 0).trans rfl, (blk_cell BK779.out 1).trans rfl⟩ (fun hHeld => ?_)
     clear hK K
     refine norm_ (a' := ?_) ?_ ?_
     rotate_left
     ·show Act.put _ (some 52) _ = _
      simp only [Act.put, List.setIfInBounds_toArray, List.set_cons_zero, List.set_cons_succ, i64_w, i32_w]
      rfl
     refine pure_ (i := 4) (N := some 53) (v := ?_) (a' := ?_) #[true, true, true, true, true] rfl rfl (by kernel_rfl) (fun _ _ _ h => h) (Or.inl ⟨by rfl, ?_⟩) ?_ ?_
     rotate_left
     ·intro w'
      go_simp
      with_reducible rfl
     rotate_left
     ·simp only [Act.put, List.setIfInBounds_toArray, List.set_cons_zero, List.set_cons_succ, i64_w, i32_w]
      rfl
     refine done_ (by kernel_rfl) ?_
     try go_wp2
     go_ret
     exact ⟨nw_, ne_ HB.out⟩

    subst c37
    have H1 : ((laws_markNet.f kj12 t789 t790 1).bind fun bt804 => (if bt804.1 < 0 then (laws_FnExactNearWalk.j1 kj12 a1 a2 t785 t788 t794 true a0_0 l0_1) else ((laws_eqIntS.f kj12 t794 t785).bind fun t806 => (if t806 = true then (laws_FnExactNearWalk.j1 kj12 a1 a2 t785 t788 t794 (t797 != t788) a0_0 l0_1) else (laws_FnExactNearWalk.j1 kj12 a1 a2 t785 t788 t794 true a0_0 l0_1))))) = some r := by rw [if_pos rfl] at H; exact H
    clear H
    have H := H1
    clear H1
    replace H := Option.bind_eq_some_iff.mp H
    obtain ⟨⟨t804, t805⟩, A380, H⟩ := H
    replace H : (if t804 < 0 then (laws_FnExactNearWalk.j1 kj12 a1 a2 t785 t788 t794 true a0_0 l0_1) else ((laws_eqIntS.f kj12 t794 t785).bind fun t806 => (if t806 = true then (laws_FnExactNearWalk.j1 kj12 a1 a2 t785 t788 t794 (t797 != t788) a0_0 l0_1) else (laws_FnExactNearWalk.j1 kj12 a1 a2 t785 t788 t794 true a0_0 l0_1)))) = some r := H
    have A38 := Aside0.mk A380
    clear A380
    have HC39 := Aside0.mk H
    clear H
    try go_wp2
    have n0_ := Aside0.mk (Kd.R_drew HO_8.out)
    have n1_ := Aside0.mk (Kd.R_drew HO_11.out)
    have n2_ := Aside0.mk (Kd.R_drew HO_794001.out)
    have n3_ := Aside0.mk (blk_drew BK779.out)
    have n4_ := Aside0.mk (blk_drew BK793.out)
    have n5_ := Aside0.mk (below_drew1 HB.out)
    clear HO_8
    clear HO_11
    clear HO_794001
    clear BK779
    clear BK793
    clear HB
    have HO_8 := n0_
    have HO_11 := n1_
    have HO_794001 := n2_
    have BK779 := n3_
    have BK793 := n4_
    have HB := n5_
    clear n0_ n1_ n2_ n3_ n4_ n5_
    refine start_ (n := 5) (S := fun w' => w'.cell? ⟨gb793, 0, none⟩ = some (.int .i64 t789) ∧ w'.cell? ⟨gb793, 1, none⟩ = some (.slice Ao26 t790.length co26) ∧ w'.cell? ⟨gb779, 0, none⟩ = some (.int .i64 a0_0) ∧ w'.cell? ⟨gb779, 1, none⟩ = some (.slice A0_1 l0_1.length c0_1)) (ds := []) #[false, false, false, false, false] (by kernel_rfl) rfl rfl ⟨(blk_cell BK793.out 0).trans rfl, (blk_cell BK793.out 1).trans rfl, (blk_cell BK779.out 0).trans rfl, (blk_cell BK779.out 1).trans rfl⟩ (fun hHeld => ?_)
    generalize wc.drew = w40 at HO_8 HO_11 HO_794001 BK779 BK793 HB hHeld ⊢
    refine take_ (i := 0) (N := some 49) (v := ?_) (a' := ?_) #[true, false, false, false, false] rfl rfl (by kernel_rfl) (fun _ _ _ h => h) (Or.inl ⟨by rfl, ?_⟩) hHeld ?_ ?_
    rotate_left
    ·rintro w' ⟨s0, s1, s2, s3⟩
     go_simp
     with_reducible rfl
    rotate_left
    ·simp only [Act.put, List.setIfInBounds_toArray, List.set_cons_zero, List.set_cons_succ, i64_w, i32_w]
     rfl
    refine take_ (i := 1) (N := some 50) (v := ?_) (a' := ?_) #[true, true, false, false, false] rfl rfl (by kernel_rfl) (fun _ _ _ h => h) (Or.inl ⟨by rfl, ?_⟩) hHeld ?_ ?_
    rotate_left
    ·rintro w' ⟨s0, s1, s2, s3⟩
     go_simp
     with_reducible rfl
    rotate_left
    ·simp only [Act.put, List.setIfInBounds_toArray, List.set_cons_zero, List.set_cons_succ, i64_w, i32_w]
     rfl
    refine one_ (i := 2) (N := some 51) #[true, true, true, false, false] rfl rfl (by kernel_rfl) (by decide) (fun K hK => ?_)
    refine goes_ Try.func22 (by kernel_rfl) rfl #[.agg #[.int .i64 a0_0, .slice A0_1 l0_1.length c0_1]] (by rfl) rfl rfl na_ ?_
    with_reducible refine (laws_toNet.calls kj12 a0_0 _ _ l0_1 t799 t800 _ ?side1 ?side2 A35.out).mono ?_
    (case side1 => exact nc_ (Kd.C_below HR0_1.out HB.out))
    (case side2 => exact HC0_1.out)
    rintro e w41 ⟨v801, rfl, ho0, hb⟩
    refine ⟨_, rfl, ?_⟩
    have n0_ := Aside0.mk (Kd.R_below (nr_ HO_8.out) hb)
    have n1_ := Aside0.mk (Kd.R_below (nr_ HO_11.out) hb)
    have n2_ := Aside0.mk (Kd.R_elder' (nr_ HO_794001.out) (Kd.R_base ho0) hb)
    have n3_ := Aside0.mk (Kd.R_lower (Kd.R_new' ho0 (Kd.R_lt (nr_ HO_794001.out))) (below_size (ne_ HB.out)))
    have n4_ := Aside0.mk (blk_below (g := gb779) (o := .cells #[.int .i64 a0_0, .slice A0_1 l0_1.length c0_1] 39 (0, 0)) (nb_ BK779.out) hb)
    have n5_ := Aside0.mk (blk_below (g := gb793) (o := .cells #[.int .i64 t789, .slice Ao26 t790.length co26] 25 (0, 0)) (nb_ BK793.out) hb)
    have n6_ := Aside0.mk (below_step (ne_ HB.out) hb)
    clear HO_8
    clear HO_11
    clear HO_794001
    clear BK779
    clear BK793
    clear HB
    have HO_8 := n0_
    have HO_11 := n1_
    have HO_794001 := n2_
    have HO802 := n3_
    have BK779 := n4_
    have BK793 := n5_
    have HB := n6_
    clear n0_ n1_ n2_ n3_ n4_ n5_ n6_
    (try clear hb)
    (try clear hb2)
    (try clear hk)
    (try clear hi)
    (try clear ho0)
    obtain ⟨Ao42, co42, eo42⟩ := Kd.R_slice HO802.out
    (first | subst eo42 | (injection eo42 with f1_ f2_ f3_; have f4_ := f1_.symm; have f5_ := f3_.symm; clear f1_ f2_ f3_; subst f4_; subst f5_))
    refine hK.out _ _ ⟨(blk_cell BK793.out 0).trans rfl, (blk_cell BK793.out 1).trans rfl, (blk_cell BK779.out 0).trans rfl, (blk_cell BK779.out 1).trans rfl⟩ (fun hHeld => ?_)
    clear hK K
    refine norm_ (a' := ?_) ?_ ?_
    rotate_left
    ·show Act.put _ (some 51) _ = _
     simp only [Act.put, List.setIfInBounds_toArray, List.set_cons_zero, List.set_cons_succ, i64_w, i32_w]
     rfl
    refine one_ (i := 3) (N := some 52) #[true, true, true, true, false] rfl rfl (by kernel_rfl) (by decide) (fun K hK => ?_)
    refine goes_ Try.func24 (by kernel_rfl) rfl #[.agg #[.int .i64 t789, .slice Ao26 t790.length co26], .agg #[.int .i64 t799, .slice Ao42 t800.length co42]] (by rfl) rfl rfl na_ ?_
    with_reducible refine (laws_eqNet.calls kj12 t789 _ _ t790 t799 _ _ t800 true _ ?side1 ?side2 ?side3 ?side4 A36.out).mono ?_
    (case side1 => exact nc_ (rR11 HO_794001.out).2.2)
    (case side2 => exact (rR11 HO_794001.out).2.1)
    (case side3 => exact nc_ (rR11 HO802.out).2.2)
    (case side4 => exact (rR11 HO802.out).2.1)
    rintro e w43 ⟨rfl, hb⟩
    refine ⟨_, rfl, ?_⟩
    have n0_ := Aside0.mk (Kd.R_below (nr_ HO_8.out) hb)
    have n1_ := Aside0.mk (Kd.R_below (nr_ HO_11.out) hb)
    have n2_ := Aside0.mk (Kd.R_below (nr_ HO_794001.out) hb)
    have n3_ := Aside0.mk (Kd.R_below (nr_ HO802.out) hb)
    have n4_ := Aside0.mk (blk_below (g := gb779) (o := .cells #[.int .i64 a0_0, .slice A0_1 l0_1.length c0_1] 39 (0, 0)) (nb_ BK779.out) hb)
    have n5_ := Aside0.mk (blk_below (g := gb793) (o := .cells #[.int .i64 t789, .slice Ao26 t790.length co26] 25 (0, 0)) (nb_ BK793.out) hb)
    have n6_ := Aside0.mk (below_step (ne_ HB.out) hb)
    clear HO_8
    clear HO_11
    clear HO_794001
    clear HO802
    clear BK779
    clear BK793
    clear HB
    have HO_8 := n0_
    have HO_11 := n1_
    have HO_794001 := n2_
    have HO802 := n3_
    have BK779 := n4_
    have BK793 := n5_
    have HB := n6_
    clear n0_ n1_ n2_ n3_ n4_ n5_ n6_
    (try clear hb)
    (try clear hb2)
    (try clear hk)
    (try clear hi)
    refine hK.out _ _ ⟨(blk_cell BK793.out 0).trans rfl, (blk_cell BK793.out 1).trans rfl, (blk_cell BK779.out 0).trans rfl, (blk_cell BK779.out 1).trans rfl⟩ (fun hHeld => ?_)
    clear hK K
    refine norm_ (a' := ?_) ?_ ?_
    rotate_left
    ·show Act.put _ (some 52) _ = _
     simp only [Act.put, List.setIfInBounds_toArray, List.set_cons_zero, List.set_cons_succ, i64_w, i32_w]
     rfl
    refine pure_ (i := 4) (N := some 53) (v := ?_) (a' := ?_) #[true, true, true, true, true] rfl rfl (by kernel_rfl) (fun _ _ _ h => h) (Or.inl ⟨by rfl, ?_⟩) ?_ ?_
    rotate_left
    ·intro w'
     go_simp
     with_reducible rfl
    rotate_left
    ·simp only [Act.put, List.setIfInBounds_toArray, List.set_cons_zero, List.set_cons_succ, i64_w, i32_w]
     rfl
    refine done_ (by kernel_rfl) ?_
    have hnb44 := NB793_779.out
    have hnc44 := NB779_793.out
    obtain ⟨hcz45_0, hcz45_1, hfz45_0, hfz45_1⟩ := cz2_ BK793.out
    go_upto_region 14 with (first | ((with_reducible refine gate_callee (f := 25) rfl ?_); refine gl_ (some 56) Try.func25 #[.agg #[.int .i64 t789, .slice Ao26 t790.length co26], .int .i64 1] ?_; (with_reducible refine (laws_markNet.calls kj12 t789 (fun k_ => some k_ = (.slice Ao26 t790.length co26 : Value).ownBlock) (.slice Ao26 t790.length co26) t790 1 t804 t805 w _ ?side1 ?side2 A38.out).mono ?_); (case side1 => exact ne_ HB.out); (case side2 => exact Kd.R_tight rfl HO_794001.out); rintro e w46 ⟨rfl, hy0, hb, hkp⟩; refine ⟨_, rfl, ?_⟩; replace HO_8 := Aside0.mk (Kd.R_mono (ok' := fun k_ => some k_ ≠ (v795 : Value).ownBlock) (Kd.R_keptB ((Kd.R_apart' HO_8.out (Kd.R_typed HO_794001.out) (by decide))) hkp (fun k_ hk_ hs_ => (hk_.2) hs_)) (fun k_ hk_ => hk_.1.1)); replace HO_11 := Aside0.mk (Kd.R_mono (ok' := fun k_ => some k_ ≠ (v786 : Value).ownBlock) (Kd.R_keptB ((Kd.R_apart' HO_11.out (Kd.R_typed HO_794001.out) (by decide))) hkp (fun k_ hk_ hs_ => (hk_.2) hs_)) (fun k_ hk_ => hk_.1.1)); replace BK779 := Aside0.mk (blk_kept (g := gb779) (o := .cells #[.int .i64 a0_0, .slice A0_1 l0_1.length c0_1] 39 (0, 0)) (nb_ BK779.out) hkp (fun hs_ => (fun e_ => (Kd.R_ne HO_794001.out BK779.out (by decide)) e_) hs_)); replace BK793 := Aside0.mk (blk_kept (g := gb793) (o := .cells #[.int .i64 t789, .slice Ao26 t790.length co26] 25 (0, 0)) (nb_ BK793.out) hkp (fun hs_ => (fun e_ => (Kd.R_ne HO_794001.out BK793.out (by decide)) e_) hs_)); replace HO_794001 := Aside0.mk (Kd.R_reok rfl hy0 (fun k_ e_ => HO_794001.out.1 k_ e_)); replace HO802 := Aside0.mk (Kd.R_mono (ok' := fun k_ => some k_ ≠ (.slice Ao26 t790.length co26 : Value).ownBlock) (Kd.R_keptB (HO802.out) hkp (fun k_ hk_ hs_ => (hk_.2) hs_)) (fun k_ hk_ => hk_.1.2)); replace HB := Aside0.mk (hb); (try clear hb); (try clear hkp); (try clear hy0)))
    (try simp only [Act.put, List.setIfInBounds_toArray, List.set_cons_zero, List.set_cons_succ])
    go_cut [69] (fun v69 wc => ∃ (kq : Nat) (x69_38 : Bool), v69 = .bool x69_38 ∧ Aside0 (laws_FnExactNearWalk.j1 kq a1 a2 t785 t788 t794 x69_38 a0_0 l0_1 = some r) ∧ Aside0 (kq ≤ kj12) ∧ Aside0 (Kd.R (Kd.int .i64) 3 wc w.heap.size (fun k_ => some k_ ≠ (v795 : Value).ownBlock) v786 t785) ∧ Aside0 (Kd.R (Kd.int .i64) 3 wc w.heap.size (fun k_ => some k_ ≠ (v786 : Value).ownBlock) v795 t794) ∧ Aside0 (Kd.R k33 33 wc w.heap.size (fun _ => True) (.slice Ao26 t790.length co26) t805) ∧ Aside0 (wc.heap[gb779]? = some (.cells #[.int .i64 a0_0, (.slice A0_1 l0_1.length c0_1)] 39 (0, 0))) ∧ Aside0 (wc.heap[gb793]? = some (.cells #[.int .i64 t789, (.slice Ao26 t790.length co26)] 25 (0, 0))) ∧ Aside0 (Below w.heap.size w wc))
    case first =>
     have H := HC39.out
     clear HC39
     by_cases c47 : t804 < 0
     ·rw [if_pos c47] at H
      have c47b0 : decide (t804 < 0) = true := decide_eq_true c47
      clear c47
      (first | rw [c47b0] | (simp only [i64_w, i32_w]; rw [c47b0]) | skip)
      have H' := Aside0.mk H
      clear H
      go_wp2
      go_meet
      case rel => exact ⟨_, (true), ns_, H', ⟨by have := HJ12.out; first | omega | exact Nat.le_refl _⟩, ⟨nr_ HO_8.out⟩, ⟨nr_ HO_11.out⟩, ⟨by (with_reducible repeat (first | apply Kd.R_alloc | apply Kd.R_drewN | apply Kd.R_drew)); exact Kd.R_mono HO_794001.out (fun _ hk => trivial)⟩, ⟨nb_ BK779.out⟩, ⟨nb_ BK793.out⟩, ⟨ne_ HB.out⟩⟩
     rw [if_neg c47] at H
     have c47b0 : decide (t804 < 0) = false := decide_eq_false c47
     clear c47
     (first | rw [c47b0] | (simp only [i64_w, i32_w]; rw [c47b0]) | skip)
     replace H := Option.bind_eq_some_iff.mp H
     obtain ⟨t806, A480, H⟩ := H
     replace H : (if t806 = true then (laws_FnExactNearWalk.j1 kj12 a1 a2 t785 t788 t794 (t797 != t788) a0_0 l0_1) else (laws_FnExactNearWalk.j1 kj12 a1 a2 t785 t788 t794 true a0_0 l0_1)) = some r := H
     have A48 := Aside0.mk A480
     clear A480
     by_cases c49 : t806 = true
     ·subst c49
      have H1 : (laws_FnExactNearWalk.j1 kj12 a1 a2 t785 t788 t794 (t797 != t788) a0_0 l0_1) = some r := by rw [if_pos rfl] at H; exact H
      clear H
      have H := H1
      clear H1
      have H' := Aside0.mk H
      clear H
      obtain ⟨Ao50, co50, eo50⟩ := Kd.R_slice HO_11.out
      subst eo50
      obtain ⟨Ao51, co51, eo51⟩ := Kd.R_slice HO_8.out
      subst eo51
      go_wp2_with (first | (go_at_call 23; (with_reducible refine (laws_eqIntS.calls kj12 _ _ t794 _ _ t785 true _ ?side1 ?side2 ?side3 ?side4 A48.out).mono ?_); (case side1 => exact nc_ (rR11 HO_11.out).2.2); (case side2 => exact (rR11 HO_11.out).2.1); (case side3 => exact nc_ (rR11 HO_8.out).2.2); (case side4 => exact (rR11 HO_8.out).2.1); rintro e w' ⟨rfl, ⟨nd, rfl⟩⟩))
      go_meet
      case rel => exact ⟨_, ((t797 != t788)), ns_, H', ⟨by have := HJ12.out; first | omega | exact Nat.le_refl _⟩, ⟨nr_ HO_8.out⟩, ⟨nr_ HO_11.out⟩, ⟨by (with_reducible repeat (first | apply Kd.R_alloc | apply Kd.R_drewN | apply Kd.R_drew)); exact Kd.R_mono HO_794001.out (fun _ hk => trivial)⟩, ⟨nb_ BK779.out⟩, ⟨nb_ BK793.out⟩, ⟨ne_ HB.out⟩⟩
     replace c49 := Bool.eq_false_iff.mpr c49
     subst c49
     have H1 : (laws_FnExactNearWalk.j1 kj12 a1 a2 t785 t788 t794 true a0_0 l0_1) = some r := by rw [if_neg (show ¬ (false = true) by decide)] at H; exact H
     clear H
     have H := H1
     clear H1
     have H' := Aside0.mk H
     clear H
     obtain ⟨Ao52, co52, eo52⟩ := Kd.R_slice HO_11.out
     subst eo52
     obtain ⟨Ao53, co53, eo53⟩ := Kd.R_slice HO_8.out
     subst eo53
     go_wp2_with (first | (go_at_call 23; (with_reducible refine (laws_eqIntS.calls kj12 _ _ t794 _ _ t785 false _ ?side1 ?side2 ?side3 ?side4 A48.out).mono ?_); (case side1 => exact nc_ (rR11 HO_11.out).2.2); (case side2 => exact (rR11 HO_11.out).2.1); (case side3 => exact nc_ (rR11 HO_8.out).2.2); (case side4 => exact (rR11 HO_8.out).2.1); rintro e w' ⟨rfl, ⟨nd, rfl⟩⟩))
     go_meet
     case rel => exact ⟨_, (true), ns_, H', ⟨by have := HJ12.out; first | omega | exact Nat.le_refl _⟩, ⟨nr_ HO_8.out⟩, ⟨nr_ HO_11.out⟩, ⟨by (with_reducible repeat (first | apply Kd.R_alloc | apply Kd.R_drewN | apply Kd.R_drew)); exact Kd.R_mono HO_794001.out (fun _ hk => trivial)⟩, ⟨nb_ BK779.out⟩, ⟨nb_ BK793.out⟩, ⟨ne_ HB.out⟩⟩
    case rest =>
     clear HC39
     try clear c1
     try clear c2
     try clear p2
     try clear c3
     try clear c4
     try clear c5
     try clear c5b0
     try clear c11
     try clear c21
     try clear c22
     try clear c23
     try clear c24
     try clear c25
     try clear c29
     try clear c30
     try clear c34
     try clear c37
     try clear c44
     try clear c47
     try clear c47b0
     try clear c49
     try clear hcz15_0
     try clear hcz15_1
     try clear hcz17_0
     try clear hcz17_1
     try clear hcz21_0
     try clear hcz21_1
     try clear hcz25_0
     try clear hcz25_1
     try clear hcz45_0
     try clear hcz45_1
     try clear hcz7_0
     try clear hcz7_1
     try clear hfz15_0
     try clear hfz15_1
     try clear hfz17_0
     try clear hfz17_1
     try clear hfz21_0
     try clear hfz21_1
     try clear hfz25_0
     try clear hfz25_1
     try clear hfz45_0
     try clear hfz45_1
     try clear hfz7_0
     try clear hfz7_1
     try clear p2
     obtain ⟨kq, x69_38, rfl, HA, HJ38, HO_8, HO_11, HO_794001, BK779, BK793, HB⟩ := hcut
     have hl794001_38 := (rR11 HO_794001.out).1
     rw [hl794001_38] at HO_794001
     (try simp only [hl794001_38])
     (try simp only [hl794001_38] at BK779)
     (try simp only [hl794001_38] at BK793)
     (try simp only [hl794001_38] at HO_8)
     (try simp only [hl794001_38] at HO_11)
     cases kq with
     | zero => exact absurd HA.out (by simp [laws_FnExactNearWalk.j1])
     | succ kj38 =>
      have H := HA.out
      clear HA
      simp only [laws_FnExactNearWalk.j1] at H
      by_cases c54 : x69_38 = true
      ·subst c54
       have H1 : (some false) = some r := by rw [if_pos rfl] at H; exact H
       clear H
       have H := H1
       clear H1
       obtain rfl := Option.some.inj H
       go_wp2
       go_ret
       exact ⟨nw_, ne_ HB.out⟩
      replace c54 := Bool.eq_false_iff.mpr c54
      subst c54
      have H1 : ((laws_markIntS.f kj38 t794 1).bind fun bt807 => ((laws_heldIntS.f kj38 bt807.2 1).bind fun t809 => (if t809 < 0 then (some false) else (if t809 = bt807.1 then ((laws_toNet.f kj38 a0_0 l0_1).bind fun bt810 => ((impl_NearWalk.f kj38 bt810.1 bt810.2 a1 a2).bind fun bt814 => ((laws_eqIntS.f kj38 bt814.1 t785).bind fun t818 => (if t818 = true then (laws_FnExactNearWalk.j2 kj38 bt807.2 bt807.1 (bt814.2 != t788)) else (laws_FnExactNearWalk.j2 kj38 bt807.2 bt807.1 true))))) else (some false))))) = some r := by rw [if_neg (show ¬ (false = true) by decide)] at H; exact H
      clear H
      have H := H1
      clear H1
      replace H := Option.bind_eq_some_iff.mp H
      obtain ⟨⟨t807, t808⟩, A550, H⟩ := H
      replace H : ((laws_heldIntS.f kj38 t808 1).bind fun t809 => (if t809 < 0 then (some false) else (if t809 = t807 then ((laws_toNet.f kj38 a0_0 l0_1).bind fun bt810 => ((impl_NearWalk.f kj38 bt810.1 bt810.2 a1 a2).bind fun bt814 => ((laws_eqIntS.f kj38 bt814.1 t785).bind fun t818 => (if t818 = true then (laws_FnExactNearWalk.j2 kj38 t808 t807 (bt814.2 != t788)) else (laws_FnExactNearWalk.j2 kj38 t808 t807 true))))) else (some false)))) = some r := H
      have A55 := Aside0.mk A550
      clear A550
      replace H := Option.bind_eq_some_iff.mp H
      obtain ⟨t809, A560, H⟩ := H
      replace H : (if t809 < 0 then (some false) else (if t809 = t807 then ((laws_toNet.f kj38 a0_0 l0_1).bind fun bt810 => ((impl_NearWalk.f kj38 bt810.1 bt810.2 a1 a2).bind fun bt814 => ((laws_eqIntS.f kj38 bt814.1 t785).bind fun t818 => (if t818 = true then (laws_FnExactNearWalk.j2 kj38 t808 t807 (bt814.2 != t788)) else (laws_FnExactNearWalk.j2 kj38 t808 t807 true))))) else (some false))) = some r := H
      have A56 := Aside0.mk A560
      clear A560
      by_cases c57 : t809 < 0
      ·rw [if_pos c57] at H
       have c57b0 : decide (t809 < 0) = true := decide_eq_true c57
       clear c57
       obtain rfl := Option.some.inj H
       obtain ⟨Ao58, co58, eo58⟩ := Kd.R_slice HO_11.out
       subst eo58
       go_wp2_with (first | ((with_reducible refine gate_callee (f := 26) rfl ?_); refine gl_ (some 72) Try.func26 #[.slice Ao58 t794.length co58, .int .i64 1] ?_; (with_reducible refine (laws_markIntS.calls kj38 (fun k_ => some k_ = (.slice Ao58 t794.length co58 : Value).ownBlock) (.slice Ao58 t794.length co58) t794 1 t807 t808 w _ ?side1 ?side2 A55.out).mono ?_); (case side1 => exact ne_ HB.out); (case side2 => exact Kd.R_tight rfl HO_11.out); rintro e w59 ⟨rfl, hy0, hb, hkp⟩; refine ⟨_, rfl, ?_⟩; replace HO_8 := Aside0.mk (Kd.R_mono (ok' := fun k_ => some k_ ≠ (.slice Ao58 t794.length co58 : Value).ownBlock) (Kd.R_keptB (HO_8.out) hkp (fun k_ hk_ hs_ => (hk_) hs_)) (fun k_ hk_ => hk_.1)); replace HO_794001 := Aside0.mk (Kd.R_mono (ok' := fun k_ => True) (Kd.R_keptB ((Kd.R_apart' HO_794001.out (Kd.R_typed HO_11.out) (by decide))) hkp (fun k_ hk_ hs_ => (hk_.2) hs_)) (fun k_ hk_ => trivial)); replace BK779 := Aside0.mk (blk_kept (g := gb779) (o := .cells #[.int .i64 a0_0, .slice A0_1 l0_1.length c0_1] 39 (0, 0)) (nb_ BK779.out) hkp (fun hs_ => (fun e_ => (Kd.R_ne HO_11.out BK779.out (by decide)) e_) hs_)); replace BK793 := Aside0.mk (blk_kept (g := gb793) (o := .cells #[.int .i64 t789, .slice Ao26 t805.length co26] 25 (0, 0)) (nb_ BK793.out) hkp (fun hs_ => (fun e_ => (Kd.R_ne HO_11.out BK793.out (by decide)) e_) hs_)); replace HO_11 := Aside0.mk (Kd.R_reok rfl hy0 (fun k_ e_ => HO_11.out.1 k_ e_)); replace HB := Aside0.mk (hb); (try clear hb); (try clear hkp); (try clear hy0)) | ((with_reducible refine gate_callee (f := 27) rfl ?_); refine goesL_ (some 75) rfl rfl Try.func27 (by kernel_rfl) rfl #[.slice Ao58 t808.length co58, .int .i64 1] rfl (by (try simp only [List.map_toArray, List.map_cons, List.map_nil]); first | done | (rw [show t808.length = t794.length from (rR11 HO_11.out).1.symm] <;> rfl) | rfl | (simp only [List.length_drop, List.length_take]; rfl)) ?_; (with_reducible refine (laws_heldIntS.calls kj38 _ _ t808 1 t809 _ ?side1 ?side2 A56.out).mono ?_); (case side1 => exact nc_ (rR11 HO_11.out).2.2); (case side2 => rw [show t808.length = t794.length from (rR11 HO_11.out).1.symm]; exact (rR11 HO_11.out).2.1); rintro e w' ⟨rfl, ⟨nd, rfl⟩⟩; refine ⟨_, rfl, ?_⟩))
       go_ret
       exact ⟨nw_, ne_ HB.out⟩
      rw [if_neg c57] at H
      have c57b0 : decide (t809 < 0) = false := decide_eq_false c57
      clear c57
      by_cases c60 : t809 = t807
      rotate_left
      ·rw [if_neg c60] at H
       have c60b0 : (t809 == t807) = false := beq_eq_false_iff_ne.mpr c60
       have c60b1 : (t809 != t807) = true := bne_iff_ne.mpr c60
       obtain rfl := Option.some.inj H
       obtain ⟨Ao81, co81, eo81⟩ := Kd.R_slice HO_11.out
       subst eo81
       go_wp2_with (first | ((with_reducible refine gate_callee (f := 26) rfl ?_); refine gl_ (some 72) Try.func26 #[.slice Ao81 t794.length co81, .int .i64 1] ?_; (with_reducible refine (laws_markIntS.calls kj38 (fun k_ => some k_ = (.slice Ao81 t794.length co81 : Value).ownBlock) (.slice Ao81 t794.length co81) t794 1 t807 t808 w _ ?side1 ?side2 A55.out).mono ?_); (case side1 => exact ne_ HB.out); (case side2 => exact Kd.R_tight rfl HO_11.out); rintro e w82 ⟨rfl, hy0, hb, hkp⟩; refine ⟨_, rfl, ?_⟩; replace HO_8 := Aside0.mk (Kd.R_mono (ok' := fun k_ => some k_ ≠ (.slice Ao81 t794.length co81 : Value).ownBlock) (Kd.R_keptB (HO_8.out) hkp (fun k_ hk_ hs_ => (hk_) hs_)) (fun k_ hk_ => hk_.1)); replace HO_794001 := Aside0.mk (Kd.R_mono (ok' := fun k_ => True) (Kd.R_keptB ((Kd.R_apart' HO_794001.out (Kd.R_typed HO_11.out) (by decide))) hkp (fun k_ hk_ hs_ => (hk_.2) hs_)) (fun k_ hk_ => trivial)); replace BK779 := Aside0.mk (blk_kept (g := gb779) (o := .cells #[.int .i64 a0_0, .slice A0_1 l0_1.length c0_1] 39 (0, 0)) (nb_ BK779.out) hkp (fun hs_ => (fun e_ => (Kd.R_ne HO_11.out BK779.out (by decide)) e_) hs_)); replace BK793 := Aside0.mk (blk_kept (g := gb793) (o := .cells #[.int .i64 t789, .slice Ao26 t805.length co26] 25 (0, 0)) (nb_ BK793.out) hkp (fun hs_ => (fun e_ => (Kd.R_ne HO_11.out BK793.out (by decide)) e_) hs_)); replace HO_11 := Aside0.mk (Kd.R_reok rfl hy0 (fun k_ e_ => HO_11.out.1 k_ e_)); replace HB := Aside0.mk (hb); (try clear hb); (try clear hkp); (try clear hy0)) | ((with_reducible refine gate_callee (f := 27) rfl ?_); refine goesL_ (some 75) rfl rfl Try.func27 (by kernel_rfl) rfl #[.slice Ao81 t808.length co81, .int .i64 1] rfl (by (try simp only [List.map_toArray, List.map_cons, List.map_nil]); first | done | (rw [show t808.length = t794.length from (rR11 HO_11.out).1.symm] <;> rfl) | rfl | (simp only [List.length_drop, List.length_take]; rfl)) ?_; (with_reducible refine (laws_heldIntS.calls kj38 _ _ t808 1 t809 _ ?side1 ?side2 A56.out).mono ?_); (case side1 => exact nc_ (rR11 HO_11.out).2.2); (case side2 => rw [show t808.length = t794.length from (rR11 HO_11.out).1.symm]; exact (rR11 HO_11.out).2.1); rintro e w' ⟨rfl, ⟨nd, rfl⟩⟩; refine ⟨_, rfl, ?_⟩))
       go_ret
       exact ⟨nw_, ne_ HB.out⟩
      rw [if_pos c60] at H
      have c60b0 : (t809 == t807) = true := beq_iff_eq.mpr c60
      have c60b1 : (t809 != t807) = false := bne_eq_false_iff_eq.mpr c60
      clear c60
      replace H := Option.bind_eq_some_iff.mp H
      obtain ⟨⟨t810, t811⟩, A610, H⟩ := H
      replace H : ((impl_NearWalk.f kj38 t810 t811 a1 a2).bind fun bt814 => ((laws_eqIntS.f kj38 bt814.1 t785).bind fun t818 => (if t818 = true then (laws_FnExactNearWalk.j2 kj38 t808 t807 (bt814.2 != t788)) else (laws_FnExactNearWalk.j2 kj38 t808 t807 true)))) = some r := H
      have A61 := Aside0.mk A610
      clear A610
      replace H := Option.bind_eq_some_iff.mp H
      obtain ⟨⟨t814, t817⟩, A620, H⟩ := H
      replace H : ((laws_eqIntS.f kj38 t814 t785).bind fun t818 => (if t818 = true then (laws_FnExactNearWalk.j2 kj38 t808 t807 (t817 != t788)) else (laws_FnExactNearWalk.j2 kj38 t808 t807 true))) = some r := H
      have A62 := Aside0.mk A620
      clear A620
      have HC63 := Aside0.mk H
      clear H
      obtain ⟨Ao64, co64, eo64⟩ := Kd.R_slice HO_11.out
      subst eo64
      go_upto_region 25 with (first | ((with_reducible refine gate_callee (f := 26) rfl ?_); refine gl_ (some 72) Try.func26 #[.slice Ao64 t794.length co64, .int .i64 1] ?_; (with_reducible refine (laws_markIntS.calls kj38 (fun k_ => some k_ = (.slice Ao64 t794.length co64 : Value).ownBlock) (.slice Ao64 t794.length co64) t794 1 t807 t808 w _ ?side1 ?side2 A55.out).mono ?_); (case side1 => exact ne_ HB.out); (case side2 => exact Kd.R_tight rfl HO_11.out); rintro e w65 ⟨rfl, hy0, hb, hkp⟩; refine ⟨_, rfl, ?_⟩; replace HO_8 := Aside0.mk (Kd.R_mono (ok' := fun k_ => some k_ ≠ (.slice Ao64 t794.length co64 : Value).ownBlock) (Kd.R_keptB (HO_8.out) hkp (fun k_ hk_ hs_ => (hk_) hs_)) (fun k_ hk_ => hk_.1)); replace HO_794001 := Aside0.mk (Kd.R_mono (ok' := fun k_ => True) (Kd.R_keptB ((Kd.R_apart' HO_794001.out (Kd.R_typed HO_11.out) (by decide))) hkp (fun k_ hk_ hs_ => (hk_.2) hs_)) (fun k_ hk_ => trivial)); replace BK779 := Aside0.mk (blk_kept (g := gb779) (o := .cells #[.int .i64 a0_0, .slice A0_1 l0_1.length c0_1] 39 (0, 0)) (nb_ BK779.out) hkp (fun hs_ => (fun e_ => (Kd.R_ne HO_11.out BK779.out (by decide)) e_) hs_)); replace BK793 := Aside0.mk (blk_kept (g := gb793) (o := .cells #[.int .i64 t789, .slice Ao26 t805.length co26] 25 (0, 0)) (nb_ BK793.out) hkp (fun hs_ => (fun e_ => (Kd.R_ne HO_11.out BK793.out (by decide)) e_) hs_)); replace HO_11 := Aside0.mk (Kd.R_reok rfl hy0 (fun k_ e_ => HO_11.out.1 k_ e_)); replace HB := Aside0.mk (hb); (try clear hb); (try clear hkp); (try clear hy0)) | ((with_reducible refine gate_callee (f := 27) rfl ?_); refine goesL_ (some 75) rfl rfl Try.func27 (by kernel_rfl) rfl #[.slice Ao64 t808.length co64, .int .i64 1] rfl (by (try simp only [List.map_toArray, List.map_cons, List.map_nil]); first | done | (rw [show t808.length = t794.length from (rR11 HO_11.out).1.symm] <;> rfl) | rfl | (simp only [List.length_drop, List.length_take]; rfl)) ?_; (with_reducible refine (laws_heldIntS.calls kj38 _ _ t808 1 t809 _ ?side1 ?side2 A56.out).mono ?_); (case side1 => exact nc_ (rR11 HO_11.out).2.2); (case side2 => rw [show t808.length = t794.length from (rR11 HO_11.out).1.symm]; exact (rR11 HO_11.out).2.1); rintro e w' ⟨rfl, ⟨nd, rfl⟩⟩; refine ⟨_, rfl, ?_⟩; have hnb66 := NB779_793.out; have hnc66 := NB793_779.out; obtain ⟨hcz67_0, hcz67_1, hfz67_0, hfz67_1⟩ := cz2_ BK779.out) | ((with_reducible refine gate_callee (f := 22) rfl ?_); refine gl_ (some 83) Try.func22 #[.agg #[.int .i64 a0_0, .slice A0_1 l0_1.length c0_1]] ?_; (with_reducible refine (laws_toNet.calls kj38 a0_0 _ _ l0_1 t810 t811 _ ?side1 ?side2 A61.out).mono ?_); (case side1 => exact nc_ (Kd.C_below HR0_1.out (ne_ HB.out))); (case side2 => exact HC0_1.out); rintro e w68 ⟨v812, rfl, ho0, hb⟩; refine ⟨_, rfl, ?_⟩; have HO813 := Aside0.mk (Kd.R_lower (Kd.R_new' ho0 (Kd.R_lt (nr_ HO_794001.out))) (below_size (ne_ HB.out))); replace HO_8 := kR_ HO_8 hb; replace HO_11 := kR_ HO_11 hb; replace HO_794001 := Aside0.mk (Kd.R_elder' (nr_ HO_794001.out) (Kd.R_base ho0) hb); replace BK779 := kb_ BK779 hb; replace BK793 := kb_ BK793 hb; replace HB := kB_ HB hb; (try clear hb); (try clear hb2); (try clear hk); (try clear hi); (try clear ho0); obtain ⟨Ao69, co69, eo69⟩ := Kd.R_slice HO813.out; subst eo69) | ((with_reducible refine gate_callee (f := 29) rfl ?_); refine gl_ (some 86) Try.func29 #[.agg #[.int .i64 t810, .slice Ao69 t811.length co69], .int .i64 a1, .int .i64 a2] ?_; (with_reducible refine (impl_NearWalk.calls kj38 t810 _ _ t811 a1 a2 t814 t817 _ ?side1 ?side2 A62.out).mono ?_); (case side1 => exact nc_ (rR11 HO813.out).2.2); (case side2 => exact (rR11 HO813.out).2.1); rintro e w70 ⟨v815, rfl, ho0, hb⟩; refine ⟨_, rfl, ?_⟩; have HO816 := Aside0.mk (Kd.R_lower (Kd.R_new' (Kd.R_new' ho0 (Kd.R_lt (nr_ HO_8.out))) (Kd.R_lt (nr_ HO_11.out))) (below_size (ne_ HB.out))); replace HO_8 := Aside0.mk (Kd.R_elder' (nr_ HO_8.out) (Kd.R_base ho0) hb); replace HO_11 := Aside0.mk (Kd.R_elder' (nr_ HO_11.out) (Kd.R_base ho0) hb); replace HO_794001 := kR_ HO_794001 hb; replace HO813 := kR_ HO813 hb; replace BK779 := kb_ BK779 hb; replace BK793 := kb_ BK793 hb; replace HB := kB_ HB hb; (try clear hb); (try clear hb2); (try clear hk); (try clear hi); (try clear ho0)))
      (try simp only [Act.put, List.setIfInBounds_toArray, List.set_cons_zero, List.set_cons_succ])
      go_cut [97] (fun v97 wc => ∃ (kq : Nat) (x97_62 : Bool), v97 = .bool x97_62 ∧ Aside0 (laws_FnExactNearWalk.j2 kq t808 t807 x97_62 = some r) ∧ Aside0 (kq ≤ kj38) ∧ Aside0 (Kd.R (Kd.int .i64) 3 wc w.heap.size (fun _ => True) (.slice Ao64 t794.length co64) t808) ∧ Aside0 (Kd.R k33 33 wc w.heap.size (fun _ => True) (.slice Ao26 t805.length co26) t805) ∧ Aside0 (wc.heap[gb779]? = some (.cells #[.int .i64 a0_0, (.slice A0_1 l0_1.length c0_1)] 39 (0, 0))) ∧ Aside0 (wc.heap[gb793]? = some (.cells #[.int .i64 t789, (.slice Ao26 t805.length co26)] 25 (0, 0))) ∧ Aside0 (Below w.heap.size w wc))
      case first =>
       have H := HC63.out
       clear HC63
       replace H := Option.bind_eq_some_iff.mp H
       obtain ⟨t818, A710, H⟩ := H
       replace H : (if t818 = true then (laws_FnExactNearWalk.j2 kj38 t808 t807 (t817 != t788)) else (laws_FnExactNearWalk.j2 kj38 t808 t807 true)) = some r := H
       have A71 := Aside0.mk A710
       clear A710
       by_cases c72 : t818 = true
       ·subst c72
        have H1 : (laws_FnExactNearWalk.j2 kj38 t808 t807 (t817 != t788)) = some r := by rw [if_pos rfl] at H; exact H
        clear H
        have H := H1
        clear H1
        have H' := Aside0.mk H
        clear H
        obtain ⟨Ao73, co73, eo73⟩ := Kd.R_slice HO816.out
        subst eo73
        obtain ⟨Ao74, co74, eo74⟩ := Kd.R_slice HO_8.out
        subst eo74
        go_wp2_with (first | ((with_reducible refine gate_callee (f := 23) rfl ?_); refine gl_ (some 91) Try.func23 #[.slice Ao73 t814.length co73, .slice Ao74 t785.length co74] ?_; (with_reducible refine (laws_eqIntS.calls kj38 _ _ t814 _ _ t785 true _ ?side1 ?side2 ?side3 ?side4 A71.out).mono ?_); (case side1 => exact nc_ (rR11 HO816.out).2.2); (case side2 => exact (rR11 HO816.out).2.1); (case side3 => exact nc_ (rR11 HO_8.out).2.2); (case side4 => exact (rR11 HO_8.out).2.1); rintro e w' ⟨rfl, ⟨nd, rfl⟩⟩; refine ⟨_, rfl, ?_⟩))
        go_meet
        case rel => exact ⟨_, ((t817 != t788)), ns_, H', ⟨by have := HJ12.out; have := HJ38.out; first | omega | exact Nat.le_refl _⟩, ⟨by (try simp only [hl794001_38]); (with_reducible repeat (first | apply Kd.R_alloc | apply Kd.R_drewN | apply Kd.R_drew)); exact Kd.R_mono HO_11.out (fun _ hk => trivial)⟩, ⟨by (try simp only [hl794001_38]); (with_reducible repeat (first | apply Kd.R_alloc | apply Kd.R_drewN | apply Kd.R_drew)); exact Kd.R_mono HO_794001.out (fun _ hk => trivial)⟩, ⟨by (try simp only [hl794001_38]); (with_reducible repeat (first | refine blk_drewN ?_ _ | refine blk_drew ?_ | refine blk_alloc ?_ _)); exact BK779.out⟩, ⟨by (try simp only [hl794001_38]); (with_reducible repeat (first | refine blk_drewN ?_ _ | refine blk_drew ?_ | refine blk_alloc ?_ _)); exact BK793.out⟩, ⟨ne_ HB.out⟩⟩
       replace c72 := Bool.eq_false_iff.mpr c72
       subst c72
       have H1 : (laws_FnExactNearWalk.j2 kj38 t808 t807 true) = some r := by rw [if_neg (show ¬ (false = true) by decide)] at H; exact H
       clear H
       have H := H1
       clear H1
       have H' := Aside0.mk H
       clear H
       obtain ⟨Ao75, co75, eo75⟩ := Kd.R_slice HO816.out
       subst eo75
       obtain ⟨Ao76, co76, eo76⟩ := Kd.R_slice HO_8.out
       subst eo76
       go_wp2_with (first | ((with_reducible refine gate_callee (f := 23) rfl ?_); refine gl_ (some 91) Try.func23 #[.slice Ao75 t814.length co75, .slice Ao76 t785.length co76] ?_; (with_reducible refine (laws_eqIntS.calls kj38 _ _ t814 _ _ t785 false _ ?side1 ?side2 ?side3 ?side4 A71.out).mono ?_); (case side1 => exact nc_ (rR11 HO816.out).2.2); (case side2 => exact (rR11 HO816.out).2.1); (case side3 => exact nc_ (rR11 HO_8.out).2.2); (case side4 => exact (rR11 HO_8.out).2.1); rintro e w' ⟨rfl, ⟨nd, rfl⟩⟩; refine ⟨_, rfl, ?_⟩))
       go_meet
       case rel => exact ⟨_, (true), ns_, H', ⟨by have := HJ12.out; have := HJ38.out; first | omega | exact Nat.le_refl _⟩, ⟨by (try simp only [hl794001_38]); (with_reducible repeat (first | apply Kd.R_alloc | apply Kd.R_drewN | apply Kd.R_drew)); exact Kd.R_mono HO_11.out (fun _ hk => trivial)⟩, ⟨by (try simp only [hl794001_38]); (with_reducible repeat (first | apply Kd.R_alloc | apply Kd.R_drewN | apply Kd.R_drew)); exact Kd.R_mono HO_794001.out (fun _ hk => trivial)⟩, ⟨by (try simp only [hl794001_38]); (with_reducible repeat (first | refine blk_drewN ?_ _ | refine blk_drew ?_ | refine blk_alloc ?_ _)); exact BK779.out⟩, ⟨by (try simp only [hl794001_38]); (with_reducible repeat (first | refine blk_drewN ?_ _ | refine blk_drew ?_ | refine blk_alloc ?_ _)); exact BK793.out⟩, ⟨ne_ HB.out⟩⟩
      case rest =>
       clear HC63
       try clear c1
       try clear c2
       try clear p2
       try clear c3
       try clear c4
       try clear c5
       try clear c5b0
       try clear c6
       try clear c7
       try clear c11
       try clear c21
       try clear c22
       try clear c23
       try clear c24
       try clear c25
       try clear c26
       try clear c27
       try clear c29
       try clear c30
       try clear c34
       try clear c37
       try clear c44
       try clear c47
       try clear c47b0
       try clear c49
       try clear c54
       try clear c57
       try clear c57b0
       try clear c60
       try clear c60b0
       try clear c60b1
       try clear c66
       try clear c72
       try clear hcz15_0
       try clear hcz15_1
       try clear hcz17_0
       try clear hcz17_1
       try clear hcz21_0
       try clear hcz21_1
       try clear hcz25_0
       try clear hcz25_1
       try clear hcz45_0
       try clear hcz45_1
       try clear hcz67_0
       try clear hcz67_1
       try clear hcz7_0
       try clear hcz7_1
       try clear hfz15_0
       try clear hfz15_1
       try clear hfz17_0
       try clear hfz17_1
       try clear hfz21_0
       try clear hfz21_1
       try clear hfz25_0
       try clear hfz25_1
       try clear hfz45_0
       try clear hfz45_1
       try clear hfz67_0
       try clear hfz67_1
       try clear hfz7_0
       try clear hfz7_1
       try clear p2
       obtain ⟨kq, x97_62, rfl, HA, HJ62, HO_11, HO_794001, BK779, BK793, HB⟩ := hcut
       have hl11_62 := (rR11 HO_11.out).1
       rw [hl11_62] at HO_11
       (try simp only [hl11_62])
       (try simp only [hl11_62] at BK779)
       (try simp only [hl11_62] at BK793)
       (try simp only [hl11_62] at HO_794001)
       cases kq with
       | zero => exact absurd HA.out (by simp [laws_FnExactNearWalk.j2])
       | succ kj62 =>
        have H := HA.out
        clear HA
        simp only [laws_FnExactNearWalk.j2] at H
        by_cases c77 : x97_62 = true
        ·subst c77
         have H1 : (some false) = some r := by rw [if_pos rfl] at H; exact H
         clear H
         have H := H1
         clear H1
         obtain rfl := Option.some.inj H
         go_wp2
         go_ret
         exact ⟨nw_, ne_ HB.out⟩
        replace c77 := Bool.eq_false_iff.mpr c77
        subst c77
        have H1 : ((laws_heldIntS.f kj62 t808 1).bind fun t819 => (if t819 < 0 then (some false) else (if t819 = t807 then (some true) else (some false)))) = some r := by rw [if_neg (show ¬ (false = true) by decide)] at H; exact H
        clear H
        have H := H1
        clear H1
        replace H := Option.bind_eq_some_iff.mp H
        obtain ⟨t819, A780, H⟩ := H
        replace H : (if t819 < 0 then (some false) else (if t819 = t807 then (some true) else (some false))) = some r := H
        have A78 := Aside0.mk A780
        clear A780
        by_cases c79 : t819 < 0
        ·rw [if_pos c79] at H
         have c79b0 : decide (t819 < 0) = true := decide_eq_true c79
         clear c79
         obtain rfl := Option.some.inj H
         go_wp2_with (first | ((with_reducible refine gate_callee (f := 27) rfl ?_); refine gl_ (some 100) Try.func27 #[.slice Ao64 t808.length co64, .int .i64 1] ?_; (with_reducible refine (laws_heldIntS.calls kj62 _ _ t808 1 t819 _ ?side1 ?side2 A78.out).mono ?_); (case side1 => exact nc_ (rR11 HO_11.out).2.2); (case side2 => exact (rR11 HO_11.out).2.1); rintro e w' ⟨rfl, ⟨nd, rfl⟩⟩; refine ⟨_, rfl, ?_⟩))
         go_ret
         exact ⟨nw_, ne_ HB.out⟩
        rw [if_neg c79] at H
        have c79b0 : decide (t819 < 0) = false := decide_eq_false c79
        clear c79
        by_cases c80 : t819 = t807
        rotate_left
        ·rw [if_neg c80] at H
         have c80b0 : (t819 == t807) = false := beq_eq_false_iff_ne.mpr c80
         have c80b1 : (t819 != t807) = true := bne_iff_ne.mpr c80
         obtain rfl := Option.some.inj H
         go_wp2_with (first | ((with_reducible refine gate_callee (f := 27) rfl ?_); refine gl_ (some 100) Try.func27 #[.slice Ao64 t808.length co64, .int .i64 1] ?_; (with_reducible refine (laws_heldIntS.calls kj62 _ _ t808 1 t819 _ ?side1 ?side2 A78.out).mono ?_); (case side1 => exact nc_ (rR11 HO_11.out).2.2); (case side2 => exact (rR11 HO_11.out).2.1); rintro e w' ⟨rfl, ⟨nd, rfl⟩⟩; refine ⟨_, rfl, ?_⟩))
         go_ret
         exact ⟨nw_, ne_ HB.out⟩
        rw [if_pos c80] at H
        have c80b0 : (t819 == t807) = true := beq_iff_eq.mpr c80
        have c80b1 : (t819 != t807) = false := bne_eq_false_iff_eq.mpr c80
        clear c80
        obtain rfl := Option.some.inj H
        go_wp2_with (first | ((with_reducible refine gate_callee (f := 27) rfl ?_); refine gl_ (some 100) Try.func27 #[.slice Ao64 t808.length co64, .int .i64 1] ?_; (with_reducible refine (laws_heldIntS.calls kj62 _ _ t808 1 t819 _ ?side1 ?side2 A78.out).mono ?_); (case side1 => exact nc_ (rR11 HO_11.out).2.2); (case side2 => exact (rR11 HO_11.out).2.1); rintro e w' ⟨rfl, ⟨nd, rfl⟩⟩; refine ⟨_, rfl, ?_⟩))
        go_ret
        exact ⟨nw_, ne_ HB.out⟩
/-- THE ONE PURE STATEMENT of laws_FnExactNearWalk. -/
def laws_FnExactNearWalk.Pure : Prop := ∀ (a0_0 : Int) (l0_1 : List (S84)) (a1 : Int) (a2 : Int), (Lit.int .i64 a0_0).wf = true → l0_1.length ≤ maxLen → (∀ x ∈ l0_1, (Lit.int .i64 x.f0).wf = true ∧ (Lit.int .i64 x.f1).wf = true ∧ (Lit.int .i64 x.f2).wf = true ∧ (Lit.int .i64 x.f3).wf = true ∧ (Lit.int .i64 x.f4).wf = true) → (Lit.int .i64 a1).wf = true → (Lit.int .i64 a2).wf = true → ∃ k, laws_FnExactNearWalk.f k a0_0 l0_1 a1 a2 = some true
theorem laws_FnExactNearWalk.walk (P : laws_FnExactNearWalk.Pure) (a0_0 : Int) (A0_1 : Option Addr) (c0_1 : Nat) (l0_1 : List (S84)) (a1 : Int) (a2 : Int) (w : World) (hw0_0 : (Lit.int .i64 a0_0).wf = true) (hr0_1 : Kd.C k84 w A0_1 l0_1.length l0_1) (hm0_1 : l0_1.length ≤ maxLen) (hw0_1 : ∀ x ∈ l0_1, (Lit.int .i64 x.f0).wf = true ∧ (Lit.int .i64 x.f1).wf = true ∧ (Lit.int .i64 x.f2).wf = true ∧ (Lit.int .i64 x.f3).wf = true ∧ (Lit.int .i64 x.f4).wf = true) (hc0_1 : l0_1.length ≤ c0_1) (hw1 : (Lit.int .i64 a1).wf = true) (hw2 : (Lit.int .i64 a2).wf = true) :
    Calls Try.prog 11 #[.agg #[.int .i64 a0_0, .slice A0_1 l0_1.length c0_1], .int .i64 a1, .int .i64 a2] w fun e w' => e = .returned (.bool true) ∧ Below w.heap.size w w' := by
  obtain ⟨k, h⟩ := P a0_0 l0_1 a1 a2 hw0_0 hm0_1 hw0_1 hw1 hw2
  refine (laws_FnExactNearWalk.calls k a0_0 A0_1 c0_1 l0_1 a1 a2 true w hr0_1 hc0_1 h).mono ?_
  rintro e w' ⟨rfl, hd⟩
  exact ⟨rfl, hd⟩

end Go.Proofs.Ytbmoonciggfbpaa.Print
