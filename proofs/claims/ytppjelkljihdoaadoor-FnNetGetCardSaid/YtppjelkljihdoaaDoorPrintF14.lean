-- Made by this session's own program (wip/patch_print.py, over the kit's print). Lean checks it.
import Derived.Test.YtppjelkljihdoaaDoorPrint0
import Derived.Test.YtppjelkljihdoaaDoorPrintF22
import Derived.Test.YtppjelkljihdoaaDoorPrintF28
import Derived.Test.YtppjelkljihdoaaDoorPrintF38
import Derived.Test.YtppjelkljihdoaaDoorPrintF39
import Derived.Test.YtppjelkljihdoaaDoorPrintF40
namespace Go.Proofs.YtppjelkljihdoaaDoor.Print
open Go.RowKit Go.Proofs.YtppjelkljihdoaaDoorW.PrintWords Go.Proofs.YtppjelkljihdoaaDoorW.PrintLast Go.Proofs.YtppjelkljihdoaaDoorW.PrintMore Go.Proofs.YtppjelkljihdoaaDoorX
attribute [local go_sem] max2_int min2_int max_two min_two max_three min_three max_four min_four   -- for this text's walks alone
set_option linter.unusedVariables false
set_option linter.unusedSimpArgs false

theorem ng79_14 {B : Nat} {w W W' : World} (h : Below B w W) (e : Below B w W → Below B w W' := by intro h_; repeat (first | (with_reducible first | exact h_ | apply below_alloc | apply pw_below_drewN | apply below_drew1 | refine below_set ?_ (IsS79.ge (Aside0.out (by with_reducible assumption))) | refine below_set ?_ (Aside0.out (by with_reducible assumption))) | exact h_)) : Below B w W' := e h
theorem ni79_14 {p q : Prop} (h : p) (e : p → q := by intro h_; repeat (first | (with_reducible first | exact h_ | apply IsS79.alloc | apply IsS79.drewN | apply IsS79.drew | apply IsS79.set_1 | refine IsS79.far ?_ (Aside0.out (by with_reducible assumption)) _) | exact h_)) : q := e h
/-! ### spec_DrawNetGet: function 14 -/
def spec_DrawNetGet.f (k : Nat) (l0 : List Int) : Option (ByteArray) := (spec_l30Open.f l0).bind fun bt301 => ((spec_l30Net.f k bt301.1 bt301.2).bind fun bt304 => ((spec_l1Put.f k bt304.1 bt304.2.1).bind fun t309 => ((spec_l30Rd_pick.f k bt301.1 bt304.2.2 2).bind fun bt310 => (if bt310.1 = 0 then (some t309) else ((spec_l30Bent.f k bt301.1 bt310.2 t309).bind fun bt312 => (some bt312.1))))))
theorem spec_DrawNetGet.mono : ∀ a0 k, LeO (spec_DrawNetGet.f k a0) (spec_DrawNetGet.f (k + 1) a0) := by
  intro a0 k
  unfold spec_DrawNetGet.f
  repeat' first | (with_reducible first | exact spec_l1Put.mono _ _ _ | exact spec_l30Bent.mono _ _ _ _ | exact spec_l30Net.mono _ _ _ | exact spec_l30Rd_pick.mono _ _ _ _ | exact LeO.refl _ | exact LeO.none _ | refine LeO.ite ?_ ?_ | refine LeO.bind ?_ (fun _ => ?_)) | exact spec_l1Put.mono _ _ _ | exact spec_l30Bent.mono _ _ _ _ | exact spec_l30Net.mono _ _ _ | exact spec_l30Rd_pick.mono _ _ _ _ | exact LeO.none _ | refine LeO.ite ?_ ?_ | refine LeO.bind ?_ (fun _ => ?_)
set_option maxHeartbeats 200000000 in
set_option maxRecDepth 100000 in
theorem spec_DrawNetGet.calls (k : Nat) (A0 : Option Addr) (c0 : Nat) (l0 : List Int) (r : ByteArray) (w : World) (hr0 : Kd.C (Kd.int .u8) w A0 l0.length l0) (hc0 : l0.length ≤ c0) (h : spec_DrawNetGet.f k l0 = some r) :
    Calls Tryd.prog 14 #[.slice A0 l0.length c0] w fun e w' => e = .returned (.string r) ∧ Below w.heap.size w w' := by
  have HR0 := Aside0.mk hr0
  have HC0 := Aside0.mk hc0
  clear hr0 hc0
  have HB := Aside0.mk (Below.refl w.heap.size w)
  have H : ((spec_l30Open.f l0).bind fun bt301 => ((spec_l30Net.f k bt301.1 bt301.2).bind fun bt304 => ((spec_l1Put.f k bt304.1 bt304.2.1).bind fun t309 => ((spec_l30Rd_pick.f k bt301.1 bt304.2.2 2).bind fun bt310 => (if bt310.1 = 0 then (some t309) else ((spec_l30Bent.f k bt301.1 bt310.2 t309).bind fun bt312 => (some bt312.1))))))) = some r := h
  clear h
  replace H := Option.bind_eq_some_iff.mp H
  obtain ⟨⟨t301, t302⟩, A20, H⟩ := H
  try dsimp only at H
  have A2 := Aside0.mk A20
  clear A20
  replace H := Option.bind_eq_some_iff.mp H
  obtain ⟨⟨t304, t305, t308⟩, A30, H⟩ := H
  try dsimp only at H
  have A3 := Aside0.mk A30
  clear A30
  replace H := Option.bind_eq_some_iff.mp H
  obtain ⟨t309, A40, H⟩ := H
  try dsimp only at H
  have A4 := Aside0.mk A40
  clear A40
  replace H := Option.bind_eq_some_iff.mp H
  obtain ⟨⟨t310, t311⟩, A50, H⟩ := H
  replace H : (if t310 = 0 then (some t309) else ((spec_l30Bent.f k t301 t311 t309).bind fun bt312 => (some bt312.1))) = some r := H
  have A5 := Aside0.mk A50
  clear A50
  by_cases c6 : t310 = 0
  ·rw [if_pos c6] at H
   have c6b0 : (t310 == 0) = true := beq_iff_eq.mpr c6
   have c6b1 : (t310 != 0) = false := bne_eq_false_iff_eq.mpr c6
   clear c6
   obtain rfl := Option.some.inj H
   go_enter Tryd.func14, Tryd.ntmps14
   go_wp2_with (first | ((with_reducible refine gate_callee (f := 22) rfl ?_); refine gl_ (some 6) Tryd.func22 #[.slice A0 l0.length c0] ?_; (with_reducible refine (spec_l30Open.calls _ _ l0 t301 t302 w _ ?side1 ?side2 ?side3 A2.out).mono ?_); (case side1 => exact (ne_ HB.out)); (case side2 => exact HR0.out); (case side3 => exact HC0.out); rintro e w7 ⟨g303, rfl, hi, hb, hb2⟩; refine ⟨_, rfl, ?_⟩; have HI303 := Aside0.mk (hi); replace HB := Aside0.mk (hb); (try clear hb); (try clear hb2); (try clear hk); (try clear hi)) | ((with_reducible refine gate_callee (f := 38) rfl ?_); refine gl_ (some 8) Tryd.func38 #[.pointer (some ⟨g303, 0, none⟩)] ?_; (with_reducible refine (spec_l30Net.calls k g303 t301 t302 t304 t305 t308 w _ ?side1 ?side2 A3.out).mono ?_); (case side1 => exact (ni79_14 HI303.out)); (case side2 => exact (ng79_14 HB.out)); rintro e w8 ⟨v306, rfl, ho0, hi, hb, hk⟩; refine ⟨_, rfl, ?_⟩; have HO307 := Aside0.mk (Kd.R_lower ho0 (below_size (ng79_14 HB.out))); replace HB := Aside0.mk (hb); replace HI303 := Aside0.mk (hi); (try clear hb); (try clear hb2); (try clear hk); (try clear hi); (try clear ho0); obtain ⟨Ao9, co9, eo9⟩ := Kd.R_slice HO307.out; subst eo9) | ((with_reducible refine gate_callee (f := 28) rfl ?_); refine gl_ (some 9) Tryd.func28 #[.agg #[.int .i64 t304, .slice Ao9 t305.length co9]] ?_; (with_reducible refine (spec_l1Put.calls k t304 _ _ t305 t309 _ ?side1 ?side2 A4.out).mono ?_); (case side1 => exact nc_ (Kd.R_reads' HO307.out).2.2); (case side2 => exact (Kd.R_reads' HO307.out).2.1); rintro e w10 ⟨rfl, hb⟩; refine ⟨_, rfl, ?_⟩; replace HO307 := kR_ HO307 hb; replace HI303 := Aside0.mk (IsS79.below (ni79_14 HI303.out) hb); replace HB := Aside0.mk (below_step (ng79_14 HB.out) hb); (try clear hb); (try clear hb2); (try clear hk); (try clear hi)) | ((with_reducible refine gate_callee (f := 39) rfl ?_); refine gl_ (some 11) Tryd.func39 #[.pointer (some ⟨g303, 0, none⟩), .int .i64 2] ?_; (with_reducible refine (spec_l30Rd_pick.calls k g303 t301 t308 2 t310 t311 w _ ?side1 ?side2 A5.out).mono ?_); (case side1 => exact (ni79_14 HI303.out)); (case side2 => exact (ng79_14 HB.out)); rintro e w11 ⟨rfl, hi, hb, hk⟩; refine ⟨_, rfl, ?_⟩; replace HO307 := Aside0.mk (Kd.R_mono (Kd.R_keep (IsS79.apart (show IsS79 w _ g303 t301 t308 from ni79_14 HI303.out) (nr_ HO307.out) (by decide)) hk (fun _ h => h.2)) (fun _ h => h.1)); replace HB := Aside0.mk (hb); replace HI303 := Aside0.mk (hi); (try clear hb); (try clear hb2); (try clear hk); (try clear hi)))
   go_ret
   exact ⟨nw_, by repeat (first | (with_reducible first | exact HB.out | apply below_alloc | apply pw_below_drewN | apply below_drew1 | refine below_set ?_ (IsS79.ge HI303.out)) | exact HB.out)⟩
  rw [if_neg c6] at H
  have c6b0 : (t310 == 0) = false := beq_eq_false_iff_ne.mpr c6
  have c6b1 : (t310 != 0) = true := bne_iff_ne.mpr c6
  replace H := Option.bind_eq_some_iff.mp H
  obtain ⟨⟨t312, t313⟩, A120, H⟩ := H
  replace H : (some t312) = some r := H
  have A12 := Aside0.mk A120
  clear A120
  obtain rfl := Option.some.inj H
  go_enter Tryd.func14, Tryd.ntmps14
  go_wp2_with (first | ((with_reducible refine gate_callee (f := 22) rfl ?_); refine gl_ (some 6) Tryd.func22 #[.slice A0 l0.length c0] ?_; (with_reducible refine (spec_l30Open.calls _ _ l0 t301 t302 w _ ?side1 ?side2 ?side3 A2.out).mono ?_); (case side1 => exact (ne_ HB.out)); (case side2 => exact HR0.out); (case side3 => exact HC0.out); rintro e w13 ⟨g303, rfl, hi, hb, hb2⟩; refine ⟨_, rfl, ?_⟩; have HI303 := Aside0.mk (hi); replace HB := Aside0.mk (hb); (try clear hb); (try clear hb2); (try clear hk); (try clear hi)) | ((with_reducible refine gate_callee (f := 38) rfl ?_); refine gl_ (some 8) Tryd.func38 #[.pointer (some ⟨g303, 0, none⟩)] ?_; (with_reducible refine (spec_l30Net.calls k g303 t301 t302 t304 t305 t308 w _ ?side1 ?side2 A3.out).mono ?_); (case side1 => exact (ni79_14 HI303.out)); (case side2 => exact (ng79_14 HB.out)); rintro e w14 ⟨v306, rfl, ho0, hi, hb, hk⟩; refine ⟨_, rfl, ?_⟩; have HO307 := Aside0.mk (Kd.R_lower ho0 (below_size (ng79_14 HB.out))); replace HB := Aside0.mk (hb); replace HI303 := Aside0.mk (hi); (try clear hb); (try clear hb2); (try clear hk); (try clear hi); (try clear ho0); obtain ⟨Ao15, co15, eo15⟩ := Kd.R_slice HO307.out; subst eo15) | ((with_reducible refine gate_callee (f := 28) rfl ?_); refine gl_ (some 9) Tryd.func28 #[.agg #[.int .i64 t304, .slice Ao15 t305.length co15]] ?_; (with_reducible refine (spec_l1Put.calls k t304 _ _ t305 t309 _ ?side1 ?side2 A4.out).mono ?_); (case side1 => exact nc_ (Kd.R_reads' HO307.out).2.2); (case side2 => exact (Kd.R_reads' HO307.out).2.1); rintro e w16 ⟨rfl, hb⟩; refine ⟨_, rfl, ?_⟩; replace HO307 := kR_ HO307 hb; replace HI303 := Aside0.mk (IsS79.below (ni79_14 HI303.out) hb); replace HB := Aside0.mk (below_step (ng79_14 HB.out) hb); (try clear hb); (try clear hb2); (try clear hk); (try clear hi)) | ((with_reducible refine gate_callee (f := 39) rfl ?_); refine gl_ (some 11) Tryd.func39 #[.pointer (some ⟨g303, 0, none⟩), .int .i64 2] ?_; (with_reducible refine (spec_l30Rd_pick.calls k g303 t301 t308 2 t310 t311 w _ ?side1 ?side2 A5.out).mono ?_); (case side1 => exact (ni79_14 HI303.out)); (case side2 => exact (ng79_14 HB.out)); rintro e w17 ⟨rfl, hi, hb, hk⟩; refine ⟨_, rfl, ?_⟩; replace HO307 := Aside0.mk (Kd.R_mono (Kd.R_keep (IsS79.apart (show IsS79 w _ g303 t301 t308 from ni79_14 HI303.out) (nr_ HO307.out) (by decide)) hk (fun _ h => h.2)) (fun _ h => h.1)); replace HB := Aside0.mk (hb); replace HI303 := Aside0.mk (hi); (try clear hb); (try clear hb2); (try clear hk); (try clear hi)) | ((with_reducible refine gate_callee (f := 40) rfl ?_); refine gl_ (some 16) Tryd.func40 #[.pointer (some ⟨g303, 0, none⟩), .string t309] ?_; (with_reducible refine (spec_l30Bent.calls k g303 t301 t311 t309 t312 t313 w _ ?side1 ?side2 A12.out).mono ?_); (case side1 => exact (ni79_14 HI303.out)); (case side2 => exact (ng79_14 HB.out)); rintro e w18 ⟨rfl, hi, hb, hk⟩; refine ⟨_, rfl, ?_⟩; replace HO307 := Aside0.mk (Kd.R_mono (Kd.R_keep (IsS79.apart (show IsS79 w _ g303 t301 t311 from ni79_14 HI303.out) (nr_ HO307.out) (by decide)) hk (fun _ h => h.2)) (fun _ h => h.1)); replace HB := Aside0.mk (hb); replace HI303 := Aside0.mk (hi); (try clear hb); (try clear hb2); (try clear hk); (try clear hi)))
  go_ret
  exact ⟨nw_, by repeat (first | (with_reducible first | exact HB.out | apply below_alloc | apply pw_below_drewN | apply below_drew1 | refine below_set ?_ (IsS79.ge HI303.out)) | exact HB.out)⟩

end Go.Proofs.YtppjelkljihdoaaDoor.Print
