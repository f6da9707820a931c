-- Made by this session's own program (wip/patch_print.py, over the kit's print). Lean checks it.
import Derived.Test.YtpjmkghmjpbldaaPrint0
import Derived.Test.YtpjmkghmjpbldaaPrintF61
namespace Go.Proofs.Ytpjmkghmjpbldaa.Print
open Go.RowKit Go.Proofs.YtpjmkghmjpbldaaW.PrintWords Go.Proofs.YtpjmkghmjpbldaaW.PrintLast Go.Proofs.YtpjmkghmjpbldaaW.PrintMore Go.Proofs.YtpjmkghmjpbldaaX
attribute [local go_sem] max2_int min2_int max_two min_two max_three min_three max_four min_four   -- for this text's walks alone
set_option linter.unusedVariables false
set_option linter.unusedSimpArgs false

/-! ### laws_toNet: function 21 -/
def laws_toNet.f (k : Nat) (a0_0 : Int) (l0_1 : List (S101)) : Option (Int × (List (S37))) := (laws_toArcS.f k l0_1).bind fun t130 => (some (a0_0, t130))
theorem laws_toNet.mono : ∀ a0 a1 k, LeO (laws_toNet.f k a0 a1) (laws_toNet.f (k + 1) a0 a1) := by
  intro a0 a1 k
  unfold laws_toNet.f
  repeat' first | (with_reducible first | exact laws_toArcS.mono _ _ | exact LeO.refl _ | exact LeO.none _ | refine LeO.ite ?_ ?_ | refine LeO.bind ?_ (fun _ => ?_)) | exact laws_toArcS.mono _ _ | exact LeO.none _ | refine LeO.ite ?_ ?_ | refine LeO.bind ?_ (fun _ => ?_)
set_option maxHeartbeats 200000000 in
set_option maxRecDepth 100000 in
theorem laws_toNet.calls (k : Nat) (a0_0 : Int) (A0_1 : Option Addr) (c0_1 : Nat) (l0_1 : List (S101)) (r1 : Int) (r2 : List (S37)) (w : World) (hr0_1 : Kd.C k101 w A0_1 l0_1.length l0_1) (hc0_1 : l0_1.length ≤ c0_1) (h : laws_toNet.f k a0_0 l0_1 = some (r1, r2)) :
    Calls Try.prog 21 #[.agg #[.int .i64 a0_0, .slice A0_1 l0_1.length c0_1]] w fun e w' => ∃ v1_ : Value, e = .returned (.agg #[.int .i64 r1, v1_]) ∧ Kd.R k37 37 w' w.heap.size (fun _ => True) v1_ r2 ∧ Below w.heap.size w w' := by
  have hu24 := Try.underlying24
  have hu29 := Try.underlying29
  have HR0_1 := Aside0.mk hr0_1
  have HC0_1 := Aside0.mk hc0_1
  clear hr0_1 hc0_1
  have HB := Aside0.mk (Below.refl w.heap.size w)
  have H : ((laws_toArcS.f k l0_1).bind fun t130 => (some (a0_0, t130))) = some (r1, r2) := h
  clear h
  replace H := Option.bind_eq_some_iff.mp H
  obtain ⟨t130, A20, H⟩ := H
  replace H : (some (a0_0, t130)) = some (r1, r2) := H
  have A2 := Aside0.mk A20
  clear A20
  simp only [Option.some.injEq, Prod.mk.injEq] at H
  obtain ⟨rfl, rfl⟩ := H
  go_enter Try.func21, Try.ntmps21
  go_wp2_with (first | ((with_reducible refine gate_dst (N := 1) rfl ?_); refine bx_ 1 #[.int .i64 a0_0, .slice A0_1 l0_1.length c0_1] 24 ?_; intro gb127 hg w3 hbox hb; have BK127 := Aside0.mk (hbox); have GW127 := Aside0.mk (zs_ hg (ne_ HB.out)); have GE127 := Aside0.mk (zs_ hg (ne_ HB.out)); replace HB := kB_ HB hb; clear hb hbox hg) | ((with_reducible refine gate_dst (N := 2) rfl ?_); refine bx_ 2 #[.int .i64 0, .slice none 0 0] 29 ?_; intro gb128 hg w4 hbox hb; have BK128 := Aside0.mk (hbox); have GW128 := Aside0.mk (zs_ hg (ne_ HB.out)); have GE128 := Aside0.mk (zs_ hg (ne_ HB.out)); have NB127_128 := Aside0.mk (nl_ BK127.out hg); have NB128_127 := Aside0.mk (nm_ BK127.out hg); replace BK127 := kb_ BK127 hb; replace HB := kB_ HB hb; clear hb hbox hg) | ((with_reducible refine gate_dst (N := 3) rfl ?_); refine bx_ 3 #[.int .i64 0, .slice none 0 0] 29 ?_; intro gb129 hg w5 hbox hb; have BK129 := Aside0.mk (hbox); have GW129 := Aside0.mk (zs_ hg (ne_ HB.out)); have GE129 := Aside0.mk (zs_ hg (ne_ HB.out)); have NB127_129 := Aside0.mk (nl_ BK127.out hg); have NB129_127 := Aside0.mk (nm_ BK127.out hg); have NB128_129 := Aside0.mk (nl_ BK128.out hg); have NB129_128 := Aside0.mk (nm_ BK128.out hg); replace BK127 := kb_ BK127 hb; replace BK128 := kb_ BK128 hb; replace HB := kB_ HB hb; clear hb hbox hg; have hnb6 := NB127_128.out; have hnc6 := NB128_127.out; have hnb7 := NB127_129.out; have hnc7 := NB129_127.out; obtain ⟨hcz8_0, hcz8_1, hfz8_0, hfz8_1⟩ := cz2_ BK127.out; have hnb9 := NB129_128.out; have hnc9 := NB128_129.out; obtain ⟨hcz10_0, hcz10_1, hfz10_0, hfz10_1⟩ := cz2_ BK129.out) | ((with_reducible refine gate_callee (f := 61) rfl ?_); refine gl_ (some 9) Try.func61 #[.slice A0_1 l0_1.length c0_1] ?_; (with_reducible refine (laws_toArcS.calls k _ _ l0_1 t130 _ ?side1 ?side2 A2.out).mono ?_); (case side1 => exact Kd.C_below HR0_1.out (ne_ HB.out)); (case side2 => exact HC0_1.out); rintro e w11 ⟨v131, rfl, ho0, hb⟩; refine ⟨_, rfl, ?_⟩; have HO132 := Aside0.mk (Kd.R_lower ho0 (below_size (ne_ HB.out))); replace BK127 := kf_ BK127 hb; replace BK128 := kf_ BK128 hb; replace BK129 := Aside0.mk (blk_below (g := gb129) (o := .cells #[.int .i64 a0_0, .slice none 0 0] 29 (0, 0)) (np_ BK129.out) hb); replace HB := kB_ HB hb; (try clear hb); (try clear hb2); (try clear hk); (try clear hi); (try clear ho0); obtain ⟨Ao12, co12, eo12⟩ := Kd.R_slice HO132.out; subst eo12; obtain ⟨hcz13_0, hcz13_1, hfz13_0, hfz13_1⟩ := cz2_ BK129.out; obtain ⟨hcz14_0, hcz14_1, hfz14_0, hfz14_1⟩ := cz2_ BK128.out))
  refine bodyPost_ret (results_cell_row rfl _ _ gb128 29 #[.int .i64 a0_0, .slice Ao12 t130.length co12] (0, 0) _ rfl (np_ BK128.out) Try.underlying29 rfl (by kernel_rfl)) rfl ?_
  exact ⟨_, nw_, by (with_reducible repeat (first | apply Kd.R_alloc | apply Kd.R_drewN | apply Kd.R_drew)); exact Kd.R_mono (rf2_ (Kd.R_far (p := ⟨gb129, 1, none⟩) (Kd.R_types (Kd.R_types HO132.out BK129.out (by decide)) BK128.out (by decide)) (fun _ hk => hk.1.2) (.slice Ao12 t130.length co12))) (fun _ hk => trivial), ne_ HB.out⟩

end Go.Proofs.Ytpjmkghmjpbldaa.Print
