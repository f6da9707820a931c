-- Made by this session's own program (wip/patch_print.py, over the kit's print). Lean checks it.
import Derived.Test.YtbmoonciggfbpaaPrint0
import Derived.Test.YtbmoonciggfbpaaPrintF37
namespace Go.Proofs.Ytbmoonciggfbpaa.Print
open Go.RowKit Go.Proofs.YtbmoonciggfbpaaW.PrintWords Go.Proofs.YtbmoonciggfbpaaW.PrintLast Go.Proofs.YtbmoonciggfbpaaW.PrintMore Go.Proofs.YtbmoonciggfbpaaX
attribute [local go_sem] max2_int min2_int max_two min_two max_three min_three max_four min_four   -- for this text's walks alone
set_option linter.unusedVariables false
set_option linter.unusedSimpArgs false

/-! ### spec_DrawNearTree: function 31 -/
def spec_DrawNearTree.f (k : Nat) (l0 : List Int) : Option (Int × (List (S33)) × Int) := (spec_DrawNetOut.f k l0).bind fun bt664 => (some (bt664.1, bt664.2.1, bt664.2.2))
theorem spec_DrawNearTree.mono : ∀ a0 k, LeO (spec_DrawNearTree.f k a0) (spec_DrawNearTree.f (k + 1) a0) := by
  intro a0 k
  unfold spec_DrawNearTree.f
  repeat' first | (with_reducible first | exact spec_DrawNetOut.mono _ _ | exact LeO.refl _ | exact LeO.none _ | refine LeO.ite ?_ ?_ | refine LeO.bind ?_ (fun _ => ?_)) | exact spec_DrawNetOut.mono _ _ | exact LeO.none _ | refine LeO.ite ?_ ?_ | refine LeO.bind ?_ (fun _ => ?_)
set_option maxHeartbeats 200000000 in
set_option maxRecDepth 100000 in
theorem spec_DrawNearTree.calls (k : Nat) (A0 : Option Addr) (c0 : Nat) (l0 : List Int) (r1 : Int) (r2 : List (S33)) (r3 : Int) (w : World) (hr0 : Kd.C (Kd.int .u8) w A0 l0.length l0) (hc0 : l0.length ≤ c0) (h : spec_DrawNearTree.f k l0 = some (r1, r2, r3)) :
    Calls Try.prog 31 #[.slice A0 l0.length c0] w fun e w' => ∃ v1_ : Value, e = .returned (.tuple #[.agg #[.int .i64 r1, v1_], .int .i64 r3]) ∧ Kd.R k33 33 w' w.heap.size (fun _ => True) v1_ r2 ∧ Below w.heap.size w w' := by
  have hu25 := Try.underlying25
  have HR0 := Aside0.mk hr0
  have HC0 := Aside0.mk hc0
  clear hr0 hc0
  have HB := Aside0.mk (Below.refl w.heap.size w)
  have H : ((spec_DrawNetOut.f k l0).bind fun bt664 => (some (bt664.1, bt664.2.1, bt664.2.2))) = some (r1, r2, r3) := h
  clear h
  replace H := Option.bind_eq_some_iff.mp H
  obtain ⟨⟨t664, t665, t668⟩, A20, H⟩ := H
  replace H : (some (t664, t665, t668)) = some (r1, r2, r3) := H
  have A2 := Aside0.mk A20
  clear A20
  simp only [Option.some.injEq, Prod.mk.injEq] at H
  obtain ⟨rfl, rfl, rfl⟩ := H
  go_enter Try.func31, Try.ntmps31
  go_wp2_with (first | ((with_reducible refine gate_dst (N := 2) rfl ?_); refine bx_ 2 #[.int .i64 0, .slice none 0 0] 25 ?_; intro gb663 hg w3 hbox hb; have BK663 := Aside0.mk (hbox); have GW663 := Aside0.mk (zs_ hg (ne_ HB.out)); have GE663 := Aside0.mk (zs_ hg (ne_ HB.out)); replace HB := kB_ HB hb; clear hb hbox hg) | ((with_reducible refine gate_callee (f := 37) rfl ?_); refine gl_ (some 5) Try.func37 #[.slice A0 l0.length c0] ?_; (with_reducible refine (spec_DrawNetOut.calls k _ _ l0 t664 t665 t668 _ ?side1 ?side2 A2.out).mono ?_); (case side1 => exact nc_ (Kd.C_below HR0.out HB.out)); (case side2 => exact HC0.out); rintro e w4 ⟨v666, rfl, ho0, hb⟩; refine ⟨_, rfl, ?_⟩; have HO667 := Aside0.mk (Kd.R_lower ho0 (below_size (ne_ HB.out))); replace BK663 := kb_ BK663 hb; replace HB := kB_ HB hb; (try clear hb); (try clear hb2); (try clear hk); (try clear hi); (try clear ho0); obtain ⟨hcz5_0, hcz5_1, hfz5_0, hfz5_1⟩ := cz2_ BK663.out; obtain ⟨Ao6, co6, eo6⟩ := Kd.R_slice HO667.out; subst eo6))
  refine bodyPost_ret (results_ct rfl _ _ gb663 25 #[.int .i64 t664, .slice Ao6 t665.length co6] (0, 0) _ rfl (np_ BK663.out) Try.underlying25 rfl (by kernel_rfl)) rfl ?_
  exact ⟨_, nw_, by (with_reducible repeat (first | apply Kd.R_alloc | apply Kd.R_drewN | apply Kd.R_drew)); exact Kd.R_mono (rf2_ (Kd.R_types HO667.out BK663.out (by decide))) (fun _ hk => trivial), ne_ HB.out⟩

end Go.Proofs.Ytbmoonciggfbpaa.Print
