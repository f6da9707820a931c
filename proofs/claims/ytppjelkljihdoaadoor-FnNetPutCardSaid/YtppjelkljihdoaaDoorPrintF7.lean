-- Made by this session's own program (wip/patch_print.py, over the kit's print). Lean checks it.
import Derived.Test.YtppjelkljihdoaaDoorPrint0
import Derived.Test.YtppjelkljihdoaaDoorPrintF21
import Derived.Test.YtppjelkljihdoaaDoorPrintF22
import Derived.Test.YtppjelkljihdoaaDoorPrintF39
namespace Go.Proofs.YtppjelkljihdoaaDoor.Print
open Go.RowKit Go.Proofs.YtppjelkljihdoaaDoorW.PrintWords Go.Proofs.YtppjelkljihdoaaDoorW.PrintLast Go.Proofs.YtppjelkljihdoaaDoorW.PrintMore Go.Proofs.YtppjelkljihdoaaDoorX
attribute [local go_sem] max2_int min2_int max_two min_two max_three min_three max_four min_four   -- for this text's walks alone
set_option linter.unusedVariables false
set_option linter.unusedSimpArgs false

/-! ### spec_DrawNetPut: function 7 -/
def spec_DrawNetPut.f (k : Nat) (l0 : List Int) : Option (Int × (List (S54))) := (spec_l30Open.f l0).bind fun bt171 => ((spec_l30AnyNet.f k bt171.1 bt171.2).bind fun bt174 => (some (bt174.1, bt174.2.1)))
theorem spec_DrawNetPut.mono : ∀ a0 k, LeO (spec_DrawNetPut.f k a0) (spec_DrawNetPut.f (k + 1) a0) := by
  intro a0 k
  unfold spec_DrawNetPut.f
  repeat' first | (with_reducible first | exact spec_l30AnyNet.mono _ _ _ | exact LeO.refl _ | exact LeO.none _ | refine LeO.ite ?_ ?_ | refine LeO.bind ?_ (fun _ => ?_)) | exact spec_l30AnyNet.mono _ _ _ | exact LeO.none _ | refine LeO.ite ?_ ?_ | refine LeO.bind ?_ (fun _ => ?_)
set_option maxHeartbeats 200000000 in
set_option maxRecDepth 100000 in
theorem spec_DrawNetPut.calls (k : Nat) (A0 : Option Addr) (c0 : Nat) (l0 : List Int) (r1 : Int) (r2 : List (S54)) (w : World) (hr0 : Kd.C (Kd.int .u8) w A0 l0.length l0) (hc0 : l0.length ≤ c0) (h : spec_DrawNetPut.f k l0 = some (r1, r2)) :
    Calls Tryd.prog 7 #[.slice A0 l0.length c0] w fun e w' => ∃ v1_ : Value, e = .returned (.agg #[.int .i64 r1, v1_]) ∧ Kd.R k54 54 w' w.heap.size (fun _ => True) v1_ r2 ∧ Below w.heap.size w w' := by
  have hu25 := Tryd.underlying25
  have HR0 := Aside0.mk hr0
  have HC0 := Aside0.mk hc0
  clear hr0 hc0
  have HB := Aside0.mk (Below.refl w.heap.size w)
  have H : ((spec_l30Open.f l0).bind fun bt171 => ((spec_l30AnyNet.f k bt171.1 bt171.2).bind fun bt174 => (some (bt174.1, bt174.2.1)))) = some (r1, r2) := h
  clear h
  replace H := Option.bind_eq_some_iff.mp H
  obtain ⟨⟨t171, t172⟩, A20, H⟩ := H
  replace H : ((spec_l30AnyNet.f k t171 t172).bind fun bt174 => (some (bt174.1, bt174.2.1))) = some (r1, r2) := H
  have A2 := Aside0.mk A20
  clear A20
  replace H := Option.bind_eq_some_iff.mp H
  obtain ⟨⟨t174, t175, t178⟩, A30, H⟩ := H
  replace H : (some (t174, t175)) = some (r1, r2) := H
  have A3 := Aside0.mk A30
  clear A30
  simp only [Option.some.injEq, Prod.mk.injEq] at H
  obtain ⟨rfl, rfl⟩ := H
  go_enter Tryd.func7, Tryd.ntmps7
  go_wp2_with (first | ((with_reducible refine gate_dst (N := 2) rfl ?_); refine bx_ 2 #[.int .i64 0, .slice none 0 0] 25 ?_; intro gb170 hg w4 hbox hb; have BK170 := Aside0.mk (hbox); have GW170 := Aside0.mk (zs_ hg (ne_ HB.out)); have GE170 := Aside0.mk (zs_ hg (ne_ HB.out)); replace HB := kB_ HB hb; clear hb hbox hg) | ((with_reducible refine gate_callee (f := 22) rfl ?_); refine gl_ (some 4) Tryd.func22 #[.slice A0 l0.length c0] ?_; (with_reducible refine (spec_l30Open.calls _ _ l0 t171 t172 w _ ?side1 ?side2 ?side3 A2.out).mono ?_); (case side1 => exact (ne_ HB.out)); (case side2 => exact HR0.out); (case side3 => exact HC0.out); rintro e w5 ⟨g173, rfl, hi, hb, hb2⟩; refine ⟨_, rfl, ?_⟩; have HI173 := Aside0.mk (hi); have NB173_170 := Aside0.mk (IsS79.ne_blk hi (blk_below (g := gb170) (o := .cells #[.int .i64 0, .slice none 0 0] 25 (0, 0)) (nb_ BK170.out) hb2) (by decide)); have NB170_173 := Aside0.mk (Ne.symm (IsS79.ne_blk hi (blk_below (g := gb170) (o := .cells #[.int .i64 0, .slice none 0 0] 25 (0, 0)) (nb_ BK170.out) hb2) (by decide))); replace BK170 := kb_ BK170 hb2; replace HB := Aside0.mk (hb); (try clear hb); (try clear hb2); (try clear hk); (try clear hi)) | ((with_reducible refine gate_callee (f := 21) rfl ?_); refine gl_ (some 5) Tryd.func21 #[.pointer (some ⟨g173, 0, none⟩)] ?_; (with_reducible refine (spec_l30AnyNet.calls k g173 t171 t172 t174 t175 t178 w _ ?side1 ?side2 A3.out).mono ?_); (case side1 => repeat (first | (with_reducible first | exact HI173.out | apply IsS79.alloc | apply IsS79.drewN | apply IsS79.drew | apply IsS79.set_1 | refine IsS79.far ?_ NB173_170.out _) | exact HI173.out)); (case side2 => exact (by repeat (first | (with_reducible first | exact HB.out | apply below_alloc | apply pw_below_drewN | apply below_drew1 | refine below_set ?_ (IsS79.ge HI173.out) | refine below_set ?_ GE170.out) | exact HB.out))); rintro e w6 ⟨v176, rfl, ho0, hi, hb, hk⟩; refine ⟨_, rfl, ?_⟩; have HO177 := Aside0.mk (Kd.R_lower ho0 (below_size (by repeat (first | (with_reducible first | exact HB.out | apply below_alloc | apply pw_below_drewN | apply below_drew1 | refine below_set ?_ (IsS79.ge HI173.out) | refine below_set ?_ GE170.out) | exact HB.out)))); replace BK170 := kk_ BK170 hk NB170_173; replace HB := Aside0.mk (hb); replace HI173 := Aside0.mk (hi); (try clear hb); (try clear hb2); (try clear hk); (try clear hi); (try clear ho0); have hnb7 := NB170_173.out; have hnc7 := NB173_170.out; obtain ⟨hcz8_0, hcz8_1, hfz8_0, hfz8_1⟩ := cz2_ BK170.out; obtain ⟨Ao9, co9, eo9⟩ := Kd.R_slice HO177.out; subst eo9))
  refine bodyPost_ret (results_cell_row rfl _ _ gb170 25 #[.int .i64 t174, .slice Ao9 t175.length co9] (0, 0) _ rfl (np_ BK170.out) Tryd.underlying25 rfl (by kernel_rfl)) rfl ?_
  exact ⟨_, nw_, by (with_reducible repeat (first | apply Kd.R_alloc | apply Kd.R_drewN | apply Kd.R_drew)); exact Kd.R_mono (rf2_ (Kd.R_types HO177.out BK170.out (by decide))) (fun _ hk => trivial), by repeat (first | (with_reducible first | exact HB.out | apply below_alloc | apply pw_below_drewN | apply below_drew1 | refine below_set ?_ (IsS79.ge HI173.out) | refine below_set ?_ GE170.out) | exact HB.out)⟩

end Go.Proofs.YtppjelkljihdoaaDoor.Print
