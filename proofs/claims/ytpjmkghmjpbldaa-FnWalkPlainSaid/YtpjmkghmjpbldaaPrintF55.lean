-- Made by this session's own program (wip/patch_print.py, over the kit's print). Lean checks it.
import Derived.Test.YtpjmkghmjpbldaaPrint0
import Derived.Test.YtpjmkghmjpbldaaPrintF42
namespace Go.Proofs.Ytpjmkghmjpbldaa.Print
open Go.RowKit Go.Proofs.YtpjmkghmjpbldaaW.PrintWords Go.Proofs.YtpjmkghmjpbldaaW.PrintLast Go.Proofs.YtpjmkghmjpbldaaW.PrintMore Go.Proofs.YtpjmkghmjpbldaaX
attribute [local go_sem] max2_int min2_int max_two min_two max_three min_three max_four min_four   -- for this text's walks alone
set_option linter.unusedVariables false
set_option linter.unusedSimpArgs false

/-! ### spec_DrawWalkPlain: function 55 -/
def spec_DrawWalkPlain.f (k : Nat) (l0 : List Int) : Option (Int × (List (S37)) × List Int) := (spec_DrawWalkOk.f k l0).bind fun bt1062 => (some (bt1062.1, bt1062.2.1, bt1062.2.2))
theorem spec_DrawWalkPlain.mono : ∀ a0 k, LeO (spec_DrawWalkPlain.f k a0) (spec_DrawWalkPlain.f (k + 1) a0) := by
  intro a0 k
  unfold spec_DrawWalkPlain.f
  repeat' first | (with_reducible first | exact spec_DrawWalkOk.mono _ _ | exact LeO.refl _ | exact LeO.none _ | refine LeO.ite ?_ ?_ | refine LeO.bind ?_ (fun _ => ?_)) | exact spec_DrawWalkOk.mono _ _ | exact LeO.none _ | refine LeO.ite ?_ ?_ | refine LeO.bind ?_ (fun _ => ?_)
set_option maxHeartbeats 200000000 in
set_option maxRecDepth 100000 in
theorem spec_DrawWalkPlain.calls (k : Nat) (A0 : Option Addr) (c0 : Nat) (l0 : List Int) (r1 : Int) (r2 : List (S37)) (r3 : List Int) (w : World) (hr0 : Kd.C (Kd.int .u8) w A0 l0.length l0) (hc0 : l0.length ≤ c0) (h : spec_DrawWalkPlain.f k l0 = some (r1, r2, r3)) :
    Calls Try.prog 55 #[.slice A0 l0.length c0] w fun e w' => ∃ v1_ v2_ : Value, e = .returned (.tuple #[.agg #[.int .i64 r1, v1_], v2_]) ∧ Kd.R k37 37 w' w.heap.size (fun _ => True) v1_ r2 ∧ Kd.R (Kd.int .i64) 3 w' w.heap.size (fun _ => True) v2_ r3 ∧ Below w.heap.size w w' := by
  have hu29 := Try.underlying29
  have HR0 := Aside0.mk hr0
  have HC0 := Aside0.mk hc0
  clear hr0 hc0
  have HB := Aside0.mk (Below.refl w.heap.size w)
  have H : ((spec_DrawWalkOk.f k l0).bind fun bt1062 => (some (bt1062.1, bt1062.2.1, bt1062.2.2))) = some (r1, r2, r3) := h
  clear h
  replace H := Option.bind_eq_some_iff.mp H
  obtain ⟨⟨t1062, t1063, t1066⟩, A20, H⟩ := H
  replace H : (some (t1062, t1063, t1066)) = some (r1, r2, r3) := H
  have A2 := Aside0.mk A20
  clear A20
  simp only [Option.some.injEq, Prod.mk.injEq] at H
  obtain ⟨rfl, rfl, rfl⟩ := H
  go_enter Try.func55, Try.ntmps55
  go_wp2_with (first | ((with_reducible refine gate_dst (N := 2) rfl ?_); refine bx_ 2 #[.int .i64 0, .slice none 0 0] 29 ?_; intro gb1061 hg w3 hbox hb; have BK1061 := Aside0.mk (hbox); have GW1061 := Aside0.mk (zs_ hg (ne_ HB.out)); have GE1061 := Aside0.mk (zs_ hg (ne_ HB.out)); replace HB := kB_ HB hb; clear hb hbox hg) | ((with_reducible refine gate_callee (f := 42) rfl ?_); refine gl_ (some 5) Try.func42 #[.slice A0 l0.length c0] ?_; (with_reducible refine (spec_DrawWalkOk.calls k _ _ l0 t1062 t1063 t1066 _ ?side1 ?side2 A2.out).mono ?_); (case side1 => exact nc_ (Kd.C_below HR0.out HB.out)); (case side2 => exact HC0.out); rintro e w4 ⟨v1064, v1067, rfl, ho0, ho1, hb⟩; refine ⟨_, rfl, ?_⟩; have HO1065 := Aside0.mk (Kd.R_lower ho0 (below_size (ne_ HB.out))); have HO1068 := Aside0.mk (Kd.R_lower ho1 (below_size (ne_ HB.out))); replace BK1061 := kb_ BK1061 hb; replace HB := kB_ HB hb; (try clear hb); (try clear hb2); (try clear hk); (try clear hi); (try clear ho0); (try clear ho1); obtain ⟨hcz5_0, hcz5_1, hfz5_0, hfz5_1⟩ := cz2_ BK1061.out; obtain ⟨Ao6, co6, eo6⟩ := Kd.R_slice HO1065.out; subst eo6))
  refine bodyPost_ret (results_ct rfl _ _ gb1061 29 #[.int .i64 t1062, .slice Ao6 t1063.length co6] (0, 0) _ rfl (np_ BK1061.out) Try.underlying29 rfl (by kernel_rfl)) rfl ?_
  exact ⟨_, _, nw_, by (with_reducible repeat (first | apply Kd.R_alloc | apply Kd.R_drewN | apply Kd.R_drew)); exact Kd.R_mono (rf2_ (Kd.R_types HO1065.out BK1061.out (by decide))) (fun _ hk => trivial), by (with_reducible repeat (first | apply Kd.R_alloc | apply Kd.R_drewN | apply Kd.R_drew)); exact Kd.R_mono (rf2_ (Kd.R_types HO1068.out BK1061.out (by decide))) (fun _ hk => trivial), ne_ HB.out⟩

end Go.Proofs.Ytpjmkghmjpbldaa.Print
