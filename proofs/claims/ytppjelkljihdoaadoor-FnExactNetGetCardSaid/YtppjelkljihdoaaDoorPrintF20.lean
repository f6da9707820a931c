-- Made by this session's own program (wip/patch_print.py, over the kit's print). Lean checks it.
import Derived.Test.YtppjelkljihdoaaDoorPrint0
import Derived.Test.YtppjelkljihdoaaDoorPrintF47
namespace Go.Proofs.YtppjelkljihdoaaDoor.Print
open Go.RowKit Go.Proofs.YtppjelkljihdoaaDoorW.PrintWords Go.Proofs.YtppjelkljihdoaaDoorW.PrintLast Go.Proofs.YtppjelkljihdoaaDoorW.PrintMore Go.Proofs.YtppjelkljihdoaaDoorX
attribute [local go_sem] max2_int min2_int max_two min_two max_three min_three max_four min_four   -- for this text's walks alone
set_option linter.unusedVariables false
set_option linter.unusedSimpArgs false

/-! ### laws_toNet: function 20 -/
def laws_toNet.f (k : Nat) (a0_0 : Int) (l0_1 : List (S88)) : Option (Int × (List (S54))) := (laws_toArcS.f k l0_1).bind fun t435 => (some (a0_0, t435))
theorem laws_toNet.mono : ∀ a0 a1 k, LeO (laws_toNet.f k a0 a1) (laws_toNet.f (k + 1) a0 a1) := by
  intro a0 a1 k
  unfold laws_toNet.f
  repeat' first | (with_reducible first | exact laws_toArcS.mono _ _ | exact LeO.refl _ | exact LeO.none _ | refine LeO.ite ?_ ?_ | refine LeO.bind ?_ (fun _ => ?_)) | exact laws_toArcS.mono _ _ | exact LeO.none _ | refine LeO.ite ?_ ?_ | refine LeO.bind ?_ (fun _ => ?_)
set_option maxHeartbeats 200000000 in
set_option maxRecDepth 100000 in
theorem laws_toNet.calls (k : Nat) (a0_0 : Int) (A0_1 : Option Addr) (c0_1 : Nat) (l0_1 : List (S88)) (r1 : Int) (r2 : List (S54)) (w : World) (hr0_1 : Kd.C k88 w A0_1 l0_1.length l0_1) (hc0_1 : l0_1.length ≤ c0_1) (h : laws_toNet.f k a0_0 l0_1 = some (r1, r2)) :
    Calls Tryd.prog 20 #[.agg #[.int .i64 a0_0, .slice A0_1 l0_1.length c0_1]] w fun e w' => ∃ v1_ : Value, e = .returned (.agg #[.int .i64 r1, v1_]) ∧ Kd.R k54 54 w' w.heap.size (fun _ => True) v1_ r2 ∧ Below w.heap.size w w' := by
  have hu38 := Tryd.underlying38
  have hu25 := Tryd.underlying25
  have HR0_1 := Aside0.mk hr0_1
  have HC0_1 := Aside0.mk hc0_1
  clear hr0_1 hc0_1
  have HB := Aside0.mk (Below.refl w.heap.size w)
  have H : ((laws_toArcS.f k l0_1).bind fun t435 => (some (a0_0, t435))) = some (r1, r2) := h
  clear h
  replace H := Option.bind_eq_some_iff.mp H
  obtain ⟨t435, A20, H⟩ := H
  replace H : (some (a0_0, t435)) = some (r1, r2) := H
  have A2 := Aside0.mk A20
  clear A20
  simp only [Option.some.injEq, Prod.mk.injEq] at H
  obtain ⟨rfl, rfl⟩ := H
  go_enter Tryd.func20, Tryd.ntmps20
  go_wp2_with (first | ((with_reducible refine gate_dst (N := 1) rfl ?_); refine bx_ 1 #[.int .i64 a0_0, .slice A0_1 l0_1.length c0_1] 38 ?_; intro gb432 hg w3 hbox hb; have BK432 := Aside0.mk (hbox); have GW432 := Aside0.mk (zs_ hg (ne_ HB.out)); have GE432 := Aside0.mk (zs_ hg (ne_ HB.out)); replace HB := kB_ HB hb; clear hb hbox hg) | ((with_reducible refine gate_dst (N := 2) rfl ?_); refine bx_ 2 #[.int .i64 0, .slice none 0 0] 25 ?_; intro gb433 hg w4 hbox hb; have BK433 := Aside0.mk (hbox); have GW433 := Aside0.mk (zs_ hg (ne_ HB.out)); have GE433 := Aside0.mk (zs_ hg (ne_ HB.out)); have NB432_433 := Aside0.mk (nl_ BK432.out hg); have NB433_432 := Aside0.mk (nm_ BK432.out hg); replace BK432 := kb_ BK432 hb; replace HB := kB_ HB hb; clear hb hbox hg) | ((with_reducible refine gate_dst (N := 3) rfl ?_); refine bx_ 3 #[.int .i64 0, .slice none 0 0] 25 ?_; intro gb434 hg w5 hbox hb; have BK434 := Aside0.mk (hbox); have GW434 := Aside0.mk (zs_ hg (ne_ HB.out)); have GE434 := Aside0.mk (zs_ hg (ne_ HB.out)); have NB432_434 := Aside0.mk (nl_ BK432.out hg); have NB434_432 := Aside0.mk (nm_ BK432.out hg); have NB433_434 := Aside0.mk (nl_ BK433.out hg); have NB434_433 := Aside0.mk (nm_ BK433.out hg); replace BK432 := kb_ BK432 hb; replace BK433 := kb_ BK433 hb; replace HB := kB_ HB hb; clear hb hbox hg; have hnb6 := NB432_433.out; have hnc6 := NB433_432.out; have hnb7 := NB432_434.out; have hnc7 := NB434_432.out; obtain ⟨hcz8_0, hcz8_1, hfz8_0, hfz8_1⟩ := cz2_ BK432.out; have hnb9 := NB434_433.out; have hnc9 := NB433_434.out; obtain ⟨hcz10_0, hcz10_1, hfz10_0, hfz10_1⟩ := cz2_ BK434.out) | ((with_reducible refine gate_callee (f := 47) rfl ?_); refine gl_ (some 9) Tryd.func47 #[.slice A0_1 l0_1.length c0_1] ?_; (with_reducible refine (laws_toArcS.calls k _ _ l0_1 t435 _ ?side1 ?side2 A2.out).mono ?_); (case side1 => exact Kd.C_below HR0_1.out (ne_ HB.out)); (case side2 => exact HC0_1.out); rintro e w11 ⟨v436, rfl, ho0, hb⟩; refine ⟨_, rfl, ?_⟩; have HO437 := Aside0.mk (Kd.R_lower ho0 (below_size (ne_ HB.out))); replace BK432 := kf_ BK432 hb; replace BK433 := kf_ BK433 hb; replace BK434 := Aside0.mk (blk_below (g := gb434) (o := .cells #[.int .i64 a0_0, .slice none 0 0] 25 (0, 0)) (np_ BK434.out) hb); replace HB := kB_ HB hb; (try clear hb); (try clear hb2); (try clear hk); (try clear hi); (try clear ho0); obtain ⟨Ao12, co12, eo12⟩ := Kd.R_slice HO437.out; subst eo12; obtain ⟨hcz13_0, hcz13_1, hfz13_0, hfz13_1⟩ := cz2_ BK434.out; obtain ⟨hcz14_0, hcz14_1, hfz14_0, hfz14_1⟩ := cz2_ BK433.out))
  refine bodyPost_ret (results_cell_row rfl _ _ gb433 25 #[.int .i64 a0_0, .slice Ao12 t435.length co12] (0, 0) _ rfl (np_ BK433.out) Tryd.underlying25 rfl (by kernel_rfl)) rfl ?_
  exact ⟨_, nw_, by (with_reducible repeat (first | apply Kd.R_alloc | apply Kd.R_drewN | apply Kd.R_drew)); exact Kd.R_mono (rf2_ (Kd.R_far (p := ⟨gb434, 1, none⟩) (Kd.R_types (Kd.R_types HO437.out BK434.out (by decide)) BK433.out (by decide)) (fun _ hk => hk.1.2) (.slice Ao12 t435.length co12))) (fun _ hk => trivial), ne_ HB.out⟩

end Go.Proofs.YtppjelkljihdoaaDoor.Print
