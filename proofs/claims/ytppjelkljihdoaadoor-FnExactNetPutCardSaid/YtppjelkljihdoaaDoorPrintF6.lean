-- Made by this session's own program (wip/patch_print.py, over the kit's print). Lean checks it.
import Derived.Test.YtppjelkljihdoaaDoorPrint0
import Derived.Test.YtppjelkljihdoaaDoorPrintB
import Derived.Test.YtppjelkljihdoaaDoorPrintF16
import Derived.Test.YtppjelkljihdoaaDoorPrintF20
import Derived.Test.YtppjelkljihdoaaDoorPrintF8
import Derived.Test.YtppjelkljihdoaaDoorPrintF9
namespace Go.Proofs.YtppjelkljihdoaaDoor.Print
open Go.RowKit Go.Proofs.YtppjelkljihdoaaDoorW.PrintWords Go.Proofs.YtppjelkljihdoaaDoorW.PrintLast Go.Proofs.YtppjelkljihdoaaDoorW.PrintMore Go.Proofs.YtppjelkljihdoaaDoorX
attribute [local go_sem] max2_int min2_int max_two min_two max_three min_three max_four min_four   -- for this text's walks alone
set_option linter.unusedVariables false
set_option linter.unusedSimpArgs false

/-! ### laws_FnExactNetPut: function 6 -/
def laws_FnExactNetPut.f (k : Nat) (a0_0 : Int) (l0_1 : List (S88)) : Option (Bool) := (laws_szNet.f a0_0 l0_1 1048576).bind fun t439 => (if t439 < 0 then (some true) else ((laws_toNet.f k a0_0 l0_1).bind fun bt440 => ((spec_NetPut.f k bt440.1 bt440.2).bind fun t444 => ((laws_toNet.f k a0_0 l0_1).bind fun bt445 => ((impl_NetPut.f bt445.1 bt445.2).bind fun t450 => (if t450.toList = t444.toList then ((laws_toNet.f k a0_0 l0_1).bind fun bt451 => ((laws_eqNet.f k bt445.1 bt445.2 bt451.1 bt451.2).bind fun t455 => (if t455 = true then (some true) else (some false)))) else (some false)))))))
theorem laws_FnExactNetPut.mono : ∀ a0 a1 k, LeO (laws_FnExactNetPut.f k a0 a1) (laws_FnExactNetPut.f (k + 1) a0 a1) := by
  intro a0 a1 k
  unfold laws_FnExactNetPut.f
  repeat' first | (with_reducible first | exact laws_eqNet.mono _ _ _ _ _ | exact laws_toNet.mono _ _ _ | exact spec_NetPut.mono _ _ _ | exact LeO.refl _ | exact LeO.none _ | refine LeO.ite ?_ ?_ | refine LeO.bind ?_ (fun _ => ?_)) | exact laws_eqNet.mono _ _ _ _ _ | exact laws_toNet.mono _ _ _ | exact spec_NetPut.mono _ _ _ | exact LeO.none _ | refine LeO.ite ?_ ?_ | refine LeO.bind ?_ (fun _ => ?_)
set_option maxHeartbeats 200000000 in
set_option maxRecDepth 100000 in
theorem laws_FnExactNetPut.calls (k : Nat) (a0_0 : Int) (A0_1 : Option Addr) (c0_1 : Nat) (l0_1 : List (S88)) (r : Bool) (w : World) (hr0_1 : Kd.C k88 w A0_1 l0_1.length l0_1) (hc0_1 : l0_1.length ≤ c0_1) (h : laws_FnExactNetPut.f k a0_0 l0_1 = some r) :
    Calls Tryd.prog 6 #[.agg #[.int .i64 a0_0, .slice A0_1 l0_1.length c0_1]] w fun e w' => e = .returned (.bool r) ∧ Below w.heap.size w w' := by
  have hu38 := Tryd.underlying38
  have hu25 := Tryd.underlying25
  have HR0_1 := Aside0.mk hr0_1
  have HC0_1 := Aside0.mk hc0_1
  clear hr0_1 hc0_1
  have HB := Aside0.mk (Below.refl w.heap.size w)
  have H : ((laws_szNet.f a0_0 l0_1 1048576).bind fun t439 => (if t439 < 0 then (some true) else ((laws_toNet.f k a0_0 l0_1).bind fun bt440 => ((spec_NetPut.f k bt440.1 bt440.2).bind fun t444 => ((laws_toNet.f k a0_0 l0_1).bind fun bt445 => ((impl_NetPut.f bt445.1 bt445.2).bind fun t450 => (if t450.toList = t444.toList then ((laws_toNet.f k a0_0 l0_1).bind fun bt451 => ((laws_eqNet.f k bt445.1 bt445.2 bt451.1 bt451.2).bind fun t455 => (if t455 = true then (some true) else (some false)))) else (some false)))))))) = some r := h
  clear h
  replace H := Option.bind_eq_some_iff.mp H
  obtain ⟨t439, A20, H⟩ := H
  try dsimp only at H
  have A2 := Aside0.mk A20
  clear A20
  by_cases c3 : t439 < 0
  ·rw [if_pos c3] at H
   have c3b0 : decide (t439 < 0) = true := decide_eq_true c3
   clear c3
   obtain rfl := Option.some.inj H
   go_enter Tryd.func6, Tryd.ntmps6
   go_wp2_with (first | ((with_reducible refine gate_dst (N := 1) rfl ?_); refine bx_ 1 #[.int .i64 a0_0, .slice A0_1 l0_1.length c0_1] 38 ?_; intro gb438 hg w4 hbox hb; have BK438 := Aside0.mk (hbox); have GW438 := Aside0.mk (zs_ hg (ne_ HB.out)); have GE438 := Aside0.mk (zs_ hg (ne_ HB.out)); replace HB := kB_ HB hb; clear hb hbox hg; obtain ⟨hcz5_0, hcz5_1, hfz5_0, hfz5_1⟩ := cz2_ BK438.out) | ((with_reducible refine gate_callee (f := 19) rfl ?_); refine gl_ (some 9) Tryd.func19 #[.agg #[.int .i64 a0_0, .slice A0_1 l0_1.length c0_1], .int .i64 1048576] ?_; (with_reducible refine (laws_szNet.calls a0_0 _ _ l0_1 1048576 t439 _ ?side1 ?side2 A2.out).mono ?_); (case side1 => exact nc_ (Kd.C_below HR0_1.out HB.out)); (case side2 => exact HC0_1.out); rintro e w6 ⟨rfl, hb⟩; refine ⟨_, rfl, ?_⟩; replace BK438 := kb_ BK438 hb; replace HB := kB_ HB hb; (try clear hb); (try clear hb2); (try clear hk); (try clear hi)))
   go_ret
   exact ⟨nw_, ne_ HB.out⟩
  rw [if_neg c3] at H
  have c3b0 : decide (t439 < 0) = false := decide_eq_false c3
  clear c3
  replace H := Option.bind_eq_some_iff.mp H
  obtain ⟨⟨t440, t441⟩, A70, H⟩ := H
  try dsimp only at H
  have A7 := Aside0.mk A70
  clear A70
  replace H := Option.bind_eq_some_iff.mp H
  obtain ⟨t444, A80, H⟩ := H
  try dsimp only at H
  have A8 := Aside0.mk A80
  clear A80
  replace H := Option.bind_eq_some_iff.mp H
  obtain ⟨⟨t445, t446⟩, A90, H⟩ := H
  try dsimp only at H
  have A9 := Aside0.mk A90
  clear A90
  replace H := Option.bind_eq_some_iff.mp H
  obtain ⟨t450, A100, H⟩ := H
  try dsimp only at H
  have A10 := Aside0.mk A100
  clear A100
  by_cases c11 : t450.toList = t444.toList
  rotate_left
  ·rw [if_neg c11] at H
   have c11b0 : (t450.toList == t444.toList) = false := beq_eq_false_iff_ne.mpr c11
   have c11b1 : (t450.toList != t444.toList) = true := bne_iff_ne.mpr c11
   obtain rfl := Option.some.inj H
   go_enter Tryd.func6, Tryd.ntmps6
   go_wp2_with (first | ((with_reducible refine gate_dst (N := 1) rfl ?_); refine bx_ 1 #[.int .i64 a0_0, .slice A0_1 l0_1.length c0_1] 38 ?_; intro gb438 hg w51 hbox hb; have BK438 := Aside0.mk (hbox); have GW438 := Aside0.mk (zs_ hg (ne_ HB.out)); have GE438 := Aside0.mk (zs_ hg (ne_ HB.out)); replace HB := kB_ HB hb; clear hb hbox hg; obtain ⟨hcz52_0, hcz52_1, hfz52_0, hfz52_1⟩ := cz2_ BK438.out) | ((with_reducible refine gate_callee (f := 19) rfl ?_); refine gl_ (some 9) Tryd.func19 #[.agg #[.int .i64 a0_0, .slice A0_1 l0_1.length c0_1], .int .i64 1048576] ?_; (with_reducible refine (laws_szNet.calls a0_0 _ _ l0_1 1048576 t439 _ ?side1 ?side2 A2.out).mono ?_); (case side1 => exact nc_ (Kd.C_below HR0_1.out HB.out)); (case side2 => exact HC0_1.out); rintro e w53 ⟨rfl, hb⟩; refine ⟨_, rfl, ?_⟩; replace BK438 := kb_ BK438 hb; replace HB := kB_ HB hb; (try clear hb); (try clear hb2); (try clear hk); (try clear hi); obtain ⟨hcz54_0, hcz54_1, hfz54_0, hfz54_1⟩ := cz2_ BK438.out) | ((with_reducible refine gate_callee (f := 20) rfl ?_); refine gl_ (some 13) Tryd.func20 #[.agg #[.int .i64 a0_0, .slice A0_1 l0_1.length c0_1]] ?_; (with_reducible refine (laws_toNet.calls k a0_0 _ _ l0_1 t440 t441 _ ?side1 ?side2 A7.out).mono ?_); (case side1 => exact nc_ (Kd.C_below HR0_1.out HB.out)); (case side2 => exact HC0_1.out); rintro e w55 ⟨v442, rfl, ho0, hb⟩; refine ⟨_, rfl, ?_⟩; have HO443 := Aside0.mk (Kd.R_lower ho0 (below_size (ne_ HB.out))); replace BK438 := kb_ BK438 hb; replace HB := kB_ HB hb; (try clear hb); (try clear hb2); (try clear hk); (try clear hi); (try clear ho0); obtain ⟨Ao56, co56, eo56⟩ := Kd.R_slice HO443.out; subst eo56) | ((with_reducible refine gate_callee (f := 9) rfl ?_); refine gl_ (some 14) Tryd.func9 #[.agg #[.int .i64 t440, .slice Ao56 t441.length co56]] ?_; (with_reducible refine (spec_NetPut.calls k t440 _ _ t441 t444 _ ?side1 ?side2 A8.out).mono ?_); (case side1 => exact nc_ (Kd.R_reads' HO443.out).2.2); (case side2 => exact (Kd.R_reads' HO443.out).2.1); rintro e w57 ⟨rfl, hb⟩; refine ⟨_, rfl, ?_⟩; replace HO443 := kR_ HO443 hb; replace BK438 := kb_ BK438 hb; replace HB := kB_ HB hb; (try clear hb); (try clear hb2); (try clear hk); (try clear hi); obtain ⟨hcz58_0, hcz58_1, hfz58_0, hfz58_1⟩ := cz2_ BK438.out) | ((with_reducible refine gate_callee (f := 20) rfl ?_); refine gl_ (some 16) Tryd.func20 #[.agg #[.int .i64 a0_0, .slice A0_1 l0_1.length c0_1]] ?_; (with_reducible refine (laws_toNet.calls k a0_0 _ _ l0_1 t445 t446 _ ?side1 ?side2 A9.out).mono ?_); (case side1 => exact nc_ (Kd.C_below HR0_1.out HB.out)); (case side2 => exact HC0_1.out); rintro e w59 ⟨v447, rfl, ho0, hb⟩; refine ⟨_, rfl, ?_⟩; have HO448 := Aside0.mk (Kd.R_lower (Kd.R_new' ho0 (Kd.R_lt (nr_ HO443.out))) (below_size (ne_ HB.out))); replace HO443 := Aside0.mk (Kd.R_elder' (nr_ HO443.out) (Kd.R_base ho0) hb); replace BK438 := kb_ BK438 hb; replace HB := kB_ HB hb; (try clear hb); (try clear hb2); (try clear hk); (try clear hi); (try clear ho0)) | ((with_reducible refine gate_dst (N := 5) rfl ?_); refine bx_ 5 #[.int .i64 0, .slice none 0 0] 25 ?_; intro gb449 hg w60 hbox hb; have BK449 := Aside0.mk (hbox); have GW449 := Aside0.mk (zs_ hg (ne_ HB.out)); have GE449 := Aside0.mk (zs_ hg (ne_ HB.out)); have NB438_449 := Aside0.mk (nl_ BK438.out hg); have NB449_438 := Aside0.mk (nm_ BK438.out hg); replace HO443 := kR_ HO443 hb; replace HO448 := kR_ HO448 hb; replace BK438 := kb_ BK438 hb; replace HB := kB_ HB hb; clear hb hbox hg; have hnb61 := NB449_438.out; have hnc61 := NB438_449.out; obtain ⟨hcz62_0, hcz62_1, hfz62_0, hfz62_1⟩ := cz2_ BK449.out; obtain ⟨Ao63, co63, eo63⟩ := Kd.R_slice HO448.out; subst eo63) | ((with_reducible refine gate_callee (f := 8) rfl ?_); refine gl_ (some 18) Tryd.func8 #[.agg #[.int .i64 t445, .slice Ao63 t446.length co63]] ?_; (with_reducible refine (impl_NetPut.calls t445 _ _ t446 t450 _ ?side1 ?side2 A10.out).mono ?_); (case side1 => refine (Kd.R_reads' (e := 54) (base := w.heap.size) (ok := fun k_ => (True ∧ some k_ ≠ (.slice Ao56 t441.length co56 : Value).ownBlock)) (n := t446.length) (c := co63) ?_).2.2; exact (by (with_reducible repeat (first | apply Kd.R_alloc | apply Kd.R_drewN | apply Kd.R_drew)); exact (Kd.R_mono (rf2_ (Kd.R_types HO448.out BK449.out (by decide))) (fun _ h_ => h_.1)))); (case side2 => exact (Kd.R_reads' HO448.out).2.1); rintro e w64 ⟨rfl, hb⟩; refine ⟨_, rfl, ?_⟩; replace HO443 := Aside0.mk (Kd.R_below (by (with_reducible repeat (first | apply Kd.R_alloc | apply Kd.R_drewN | apply Kd.R_drew)); exact (Kd.R_mono (rf2_ (Kd.R_types HO443.out BK449.out (by decide))) (fun _ h_ => h_.1))) hb); replace HO448 := Aside0.mk (Kd.R_below (by (with_reducible repeat (first | apply Kd.R_alloc | apply Kd.R_drewN | apply Kd.R_drew)); exact (Kd.R_mono (rf2_ (Kd.R_types HO448.out BK449.out (by decide))) (fun _ h_ => h_.1))) hb); replace BK438 := kf_ BK438 hb; replace BK449 := Aside0.mk (blk_below (g := gb449) (o := .cells #[.int .i64 t445, .slice Ao63 t446.length co63] 25 (0, 0)) (np_ BK449.out) hb); replace HB := kB_ HB hb; (try clear hb); (try clear hb2); (try clear hk); (try clear hi)))
   go_ret
   exact ⟨nw_, ne_ HB.out⟩

  rw [if_pos c11] at H
  have c11b0 : (t450.toList == t444.toList) = true := beq_iff_eq.mpr c11
  have c11b1 : (t450.toList != t444.toList) = false := bne_eq_false_iff_eq.mpr c11
  clear c11
  replace H := Option.bind_eq_some_iff.mp H
  obtain ⟨⟨t451, t452⟩, A120, H⟩ := H
  replace H : ((laws_eqNet.f k t445 t446 t451 t452).bind fun t455 => (if t455 = true then (some true) else (some false))) = some r := H
  have A12 := Aside0.mk A120
  clear A120
  replace H := Option.bind_eq_some_iff.mp H
  obtain ⟨t455, A130, H⟩ := H
  replace H : (if t455 = true then (some true) else (some false)) = some r := H
  have A13 := Aside0.mk A130
  clear A130
  by_cases c14 : t455 = true
  ·subst c14
   have H1 : (some true) = some r := by rw [if_pos rfl] at H; exact H
   clear H
   have H := H1
   clear H1
   obtain rfl := Option.some.inj H
   go_enter Tryd.func6, Tryd.ntmps6
   try go_wp2_with (first | ((with_reducible refine gate_dst (N := 1) rfl ?_); refine bx_ 1 #[.int .i64 a0_0, .slice A0_1 l0_1.length c0_1] 38 ?_; intro gb438 hg w15 hbox hb; have BK438 := Aside0.mk (hbox); have GW438 := Aside0.mk (zs_ hg (ne_ HB.out)); have GE438 := Aside0.mk (zs_ hg (ne_ HB.out)); replace HB := kB_ HB hb; clear hb hbox hg; obtain ⟨hcz16_0, hcz16_1, hfz16_0, hfz16_1⟩ := cz2_ BK438.out) | ((with_reducible refine gate_callee (f := 19) rfl ?_); refine gl_ (some 9) Tryd.func19 #[.agg #[.int .i64 a0_0, .slice A0_1 l0_1.length c0_1], .int .i64 1048576] ?_; (with_reducible refine (laws_szNet.calls a0_0 _ _ l0_1 1048576 t439 _ ?side1 ?side2 A2.out).mono ?_); (case side1 => exact nc_ (Kd.C_below HR0_1.out HB.out)); (case side2 => exact HC0_1.out); rintro e w17 ⟨rfl, hb⟩; refine ⟨_, rfl, ?_⟩; replace BK438 := kb_ BK438 hb; replace HB := kB_ HB hb; (try clear hb); (try clear hb2); (try clear hk); (try clear hi); obtain ⟨hcz18_0, hcz18_1, hfz18_0, hfz18_1⟩ := cz2_ BK438.out) | ((with_reducible refine gate_callee (f := 20) rfl ?_); refine gl_ (some 13) Tryd.func20 #[.agg #[.int .i64 a0_0, .slice A0_1 l0_1.length c0_1]] ?_; (with_reducible refine (laws_toNet.calls k a0_0 _ _ l0_1 t440 t441 _ ?side1 ?side2 A7.out).mono ?_); (case side1 => exact nc_ (Kd.C_below HR0_1.out HB.out)); (case side2 => exact HC0_1.out); rintro e w19 ⟨v442, rfl, ho0, hb⟩; refine ⟨_, rfl, ?_⟩; have HO443 := Aside0.mk (Kd.R_lower ho0 (below_size (ne_ HB.out))); replace BK438 := kb_ BK438 hb; replace HB := kB_ HB hb; (try clear hb); (try clear hb2); (try clear hk); (try clear hi); (try clear ho0); obtain ⟨Ao20, co20, eo20⟩ := Kd.R_slice HO443.out; subst eo20) | ((with_reducible refine gate_callee (f := 9) rfl ?_); refine gl_ (some 14) Tryd.func9 #[.agg #[.int .i64 t440, .slice Ao20 t441.length co20]] ?_; (with_reducible refine (spec_NetPut.calls k t440 _ _ t441 t444 _ ?side1 ?side2 A8.out).mono ?_); (case side1 => exact nc_ (Kd.R_reads' HO443.out).2.2); (case side2 => exact (Kd.R_reads' HO443.out).2.1); rintro e w21 ⟨rfl, hb⟩; refine ⟨_, rfl, ?_⟩; replace HO443 := kR_ HO443 hb; replace BK438 := kb_ BK438 hb; replace HB := kB_ HB hb; (try clear hb); (try clear hb2); (try clear hk); (try clear hi); obtain ⟨hcz22_0, hcz22_1, hfz22_0, hfz22_1⟩ := cz2_ BK438.out) | ((with_reducible refine gate_callee (f := 20) rfl ?_); refine gl_ (some 16) Tryd.func20 #[.agg #[.int .i64 a0_0, .slice A0_1 l0_1.length c0_1]] ?_; (with_reducible refine (laws_toNet.calls k a0_0 _ _ l0_1 t445 t446 _ ?side1 ?side2 A9.out).mono ?_); (case side1 => exact nc_ (Kd.C_below HR0_1.out HB.out)); (case side2 => exact HC0_1.out); rintro e w23 ⟨v447, rfl, ho0, hb⟩; refine ⟨_, rfl, ?_⟩; have HO448 := Aside0.mk (Kd.R_lower (Kd.R_new' ho0 (Kd.R_lt (nr_ HO443.out))) (below_size (ne_ HB.out))); replace HO443 := Aside0.mk (Kd.R_elder' (nr_ HO443.out) (Kd.R_base ho0) hb); replace BK438 := kb_ BK438 hb; replace HB := kB_ HB hb; (try clear hb); (try clear hb2); (try clear hk); (try clear hi); (try clear ho0)) | ((with_reducible refine gate_dst (N := 5) rfl ?_); refine bx_ 5 #[.int .i64 0, .slice none 0 0] 25 ?_; intro gb449 hg w24 hbox hb; have BK449 := Aside0.mk (hbox); have GW449 := Aside0.mk (zs_ hg (ne_ HB.out)); have GE449 := Aside0.mk (zs_ hg (ne_ HB.out)); have NB438_449 := Aside0.mk (nl_ BK438.out hg); have NB449_438 := Aside0.mk (nm_ BK438.out hg); replace HO443 := kR_ HO443 hb; replace HO448 := kR_ HO448 hb; replace BK438 := kb_ BK438 hb; replace HB := kB_ HB hb; clear hb hbox hg; have hnb25 := NB449_438.out; have hnc25 := NB438_449.out; obtain ⟨hcz26_0, hcz26_1, hfz26_0, hfz26_1⟩ := cz2_ BK449.out; obtain ⟨Ao27, co27, eo27⟩ := Kd.R_slice HO448.out; subst eo27) | ((with_reducible refine gate_callee (f := 8) rfl ?_); refine gl_ (some 18) Tryd.func8 #[.agg #[.int .i64 t445, .slice Ao27 t446.length co27]] ?_; (with_reducible refine (impl_NetPut.calls t445 _ _ t446 t450 _ ?side1 ?side2 A10.out).mono ?_); (case side1 => refine (Kd.R_reads' (e := 54) (base := w.heap.size) (ok := fun k_ => (True ∧ some k_ ≠ (.slice Ao20 t441.length co20 : Value).ownBlock)) (n := t446.length) (c := co27) ?_).2.2; exact (by (with_reducible repeat (first | apply Kd.R_alloc | apply Kd.R_drewN | apply Kd.R_drew)); exact (Kd.R_mono (rf2_ (Kd.R_types HO448.out BK449.out (by decide))) (fun _ h_ => h_.1)))); (case side2 => exact (Kd.R_reads' HO448.out).2.1); rintro e w28 ⟨rfl, hb⟩; refine ⟨_, rfl, ?_⟩; replace HO443 := Aside0.mk (Kd.R_below (by (with_reducible repeat (first | apply Kd.R_alloc | apply Kd.R_drewN | apply Kd.R_drew)); exact (Kd.R_mono (rf2_ (Kd.R_types HO443.out BK449.out (by decide))) (fun _ h_ => h_.1))) hb); replace HO448 := Aside0.mk (Kd.R_below (by (with_reducible repeat (first | apply Kd.R_alloc | apply Kd.R_drewN | apply Kd.R_drew)); exact (Kd.R_mono (rf2_ (Kd.R_types HO448.out BK449.out (by decide))) (fun _ h_ => h_.1))) hb); replace BK438 := kf_ BK438 hb; replace BK449 := Aside0.mk (blk_below (g := gb449) (o := .cells #[.int .i64 t445, .slice Ao27 t446.length co27] 25 (0, 0)) (np_ BK449.out) hb); replace HB := kB_ HB hb; (try clear hb); (try clear hb2); (try clear hk); (try clear hi)))
   replace HO443 := Aside0.mk (Kd.R_drew HO443.out)
   replace HO448 := Aside0.mk (Kd.R_drew HO448.out)
   replace BK438 := Aside0.mk (blk_drew BK438.out)
   replace BK449 := Aside0.mk (blk_drew BK449.out)
   replace HB := Aside0.mk (below_drew1 HB.out)
   refine start_ (n := 5) (S := fun w' => w'.cell? ⟨gb449, 0, none⟩ = some (.int .i64 t445) ∧ w'.cell? ⟨gb449, 1, none⟩ = some (.slice Ao27 t446.length co27) ∧ w'.cell? ⟨gb438, 0, none⟩ = some (.int .i64 a0_0) ∧ w'.cell? ⟨gb438, 1, none⟩ = some (.slice A0_1 l0_1.length c0_1)) (ds := []) #[false, false, false, false, false] (by kernel_rfl) rfl rfl ⟨ct_ BK449.out 0, ct_ BK449.out 1, ct_ BK438.out 0, ct_ BK438.out 1⟩ (fun hHeld => ?_)
   generalize w28.drew = w29 at HO443 HO448 BK438 BK449 HB hHeld ⊢
   refine take_ (i := 0) (N := some 22) (v := ?_) (a' := ?_) #[true, false, false, false, false] rfl rfl (by kernel_rfl) (fun _ _ _ h => h) (Or.inl ⟨by rfl, ?_⟩) hHeld ?_ ?_
   rotate_left
   ·rintro w' ⟨s0, s1, s2, s3⟩
    go_simp
    with_reducible rfl
   rotate_left
   ·simp only [Act.put, List.setIfInBounds_toArray, List.set_cons_zero, List.set_cons_succ, i64_w, i32_w]
    rfl
   refine take_ (i := 1) (N := some 23) (v := ?_) (a' := ?_) #[true, true, false, false, false] rfl rfl (by kernel_rfl) (fun _ _ _ h => h) (Or.inl ⟨by rfl, ?_⟩) hHeld ?_ ?_
   rotate_left
   ·rintro w' ⟨s0, s1, s2, s3⟩
    go_simp
    with_reducible rfl
   rotate_left
   ·simp only [Act.put, List.setIfInBounds_toArray, List.set_cons_zero, List.set_cons_succ, i64_w, i32_w]
    rfl
   refine one_ (i := 2) (N := some 24) #[true, true, true, false, false] rfl rfl (by kernel_rfl) (by decide) (fun K hK => ?_)
   refine go_ Tryd.func20 #[.agg #[.int .i64 a0_0, .slice A0_1 l0_1.length c0_1]] ?_
   with_reducible refine (laws_toNet.calls k a0_0 _ _ l0_1 t451 t452 _ ?side1 ?side2 A12.out).mono ?_
   (case side1 => exact nc_ (Kd.C_below HR0_1.out HB.out))
   (case side2 => exact HC0_1.out)
   rintro e w30 ⟨v453, rfl, ho0, hb⟩
   refine ⟨_, rfl, ?_⟩
   have HO454 := Aside0.mk (Kd.R_lower (Kd.R_new' (Kd.R_new' ho0 (Kd.R_lt (nr_ HO443.out))) (Kd.R_lt (nr_ HO448.out))) (below_size (ne_ HB.out)))
   replace HO443 := Aside0.mk (Kd.R_elder' (nr_ HO443.out) (Kd.R_base ho0) hb)
   replace HO448 := Aside0.mk (Kd.R_elder' (nr_ HO448.out) (Kd.R_base ho0) hb)
   replace BK438 := kb_ BK438 hb
   replace BK449 := kb_ BK449 hb
   replace HB := kB_ HB hb
   (try clear hb)
   (try clear hb2)
   (try clear hk)
   (try clear hi)
   (try clear ho0)
   obtain ⟨Ao31, co31, eo31⟩ := Kd.R_slice HO454.out
   (first | subst eo31 | (injection eo31 with f1_ f2_ f3_; have f4_ := f1_.symm; have f5_ := f3_.symm; clear f1_ f2_ f3_; subst f4_; subst f5_))
   refine hK.out _ _ ⟨ct_ BK449.out 0, ct_ BK449.out 1, ct_ BK438.out 0, ct_ BK438.out 1⟩ (fun hHeld => ?_)
   clear hK K
   refine nm1_ (some 24) ?_
   refine one_ (i := 3) (N := some 25) #[true, true, true, true, false] rfl rfl (by kernel_rfl) (by decide) (fun K hK => ?_)
   refine go_ Tryd.func16 #[.agg #[.int .i64 t445, .slice Ao27 t446.length co27], .agg #[.int .i64 t451, .slice Ao31 t452.length co31]] ?_
   with_reducible refine (laws_eqNet.calls k t445 _ _ t446 t451 _ _ t452 true _ ?side1 ?side2 ?side3 ?side4 A13.out).mono ?_
   (case side1 => exact nc_ (Kd.R_reads' HO448.out).2.2)
   (case side2 => exact (Kd.R_reads' HO448.out).2.1)
   (case side3 => exact nc_ (Kd.R_reads' HO454.out).2.2)
   (case side4 => exact (Kd.R_reads' HO454.out).2.1)
   rintro e w32 ⟨rfl, hb⟩
   refine ⟨_, rfl, ?_⟩
   replace HO443 := kR_ HO443 hb
   replace HO448 := kR_ HO448 hb
   replace HO454 := kR_ HO454 hb
   replace BK438 := kb_ BK438 hb
   replace BK449 := kb_ BK449 hb
   replace HB := kB_ HB hb
   (try clear hb)
   (try clear hb2)
   (try clear hk)
   (try clear hi)
   refine hK.out _ _ ⟨ct_ BK449.out 0, ct_ BK449.out 1, ct_ BK438.out 0, ct_ BK438.out 1⟩ (fun hHeld => ?_)
   clear hK K
   refine nm1_ (some 25) ?_
   refine pure_ (i := 4) (N := some 26) (v := ?_) (a' := ?_) #[true, true, true, true, true] rfl rfl (by kernel_rfl) (fun _ _ _ h => h) (Or.inl ⟨by rfl, ?_⟩) ?_ ?_
   rotate_left
   ·intro w'
    go_simp
    with_reducible rfl
   rotate_left
   ·simp only [Act.put, List.setIfInBounds_toArray, List.set_cons_zero, List.set_cons_succ, i64_w, i32_w]
    rfl
   refine done_ (by kernel_rfl) ?_
   try go_wp2
   go_ret
   exact ⟨nw_, ne_ HB.out⟩
  replace c14 := Bool.eq_false_iff.mpr c14
  subst c14
  have H1 : (some false) = some r := by rw [if_neg (show ¬ (false = true) by decide)] at H; exact H
  clear H
  have H := H1
  clear H1
  obtain rfl := Option.some.inj H
  go_enter Tryd.func6, Tryd.ntmps6
  try go_wp2_with (first | ((with_reducible refine gate_dst (N := 1) rfl ?_); refine bx_ 1 #[.int .i64 a0_0, .slice A0_1 l0_1.length c0_1] 38 ?_; intro gb438 hg w33 hbox hb; have BK438 := Aside0.mk (hbox); have GW438 := Aside0.mk (zs_ hg (ne_ HB.out)); have GE438 := Aside0.mk (zs_ hg (ne_ HB.out)); replace HB := kB_ HB hb; clear hb hbox hg; obtain ⟨hcz34_0, hcz34_1, hfz34_0, hfz34_1⟩ := cz2_ BK438.out) | ((with_reducible refine gate_callee (f := 19) rfl ?_); refine gl_ (some 9) Tryd.func19 #[.agg #[.int .i64 a0_0, .slice A0_1 l0_1.length c0_1], .int .i64 1048576] ?_; (with_reducible refine (laws_szNet.calls a0_0 _ _ l0_1 1048576 t439 _ ?side1 ?side2 A2.out).mono ?_); (case side1 => exact nc_ (Kd.C_below HR0_1.out HB.out)); (case side2 => exact HC0_1.out); rintro e w35 ⟨rfl, hb⟩; refine ⟨_, rfl, ?_⟩; replace BK438 := kb_ BK438 hb; replace HB := kB_ HB hb; (try clear hb); (try clear hb2); (try clear hk); (try clear hi); obtain ⟨hcz36_0, hcz36_1, hfz36_0, hfz36_1⟩ := cz2_ BK438.out) | ((with_reducible refine gate_callee (f := 20) rfl ?_); refine gl_ (some 13) Tryd.func20 #[.agg #[.int .i64 a0_0, .slice A0_1 l0_1.length c0_1]] ?_; (with_reducible refine (laws_toNet.calls k a0_0 _ _ l0_1 t440 t441 _ ?side1 ?side2 A7.out).mono ?_); (case side1 => exact nc_ (Kd.C_below HR0_1.out HB.out)); (case side2 => exact HC0_1.out); rintro e w37 ⟨v442, rfl, ho0, hb⟩; refine ⟨_, rfl, ?_⟩; have HO443 := Aside0.mk (Kd.R_lower ho0 (below_size (ne_ HB.out))); replace BK438 := kb_ BK438 hb; replace HB := kB_ HB hb; (try clear hb); (try clear hb2); (try clear hk); (try clear hi); (try clear ho0); obtain ⟨Ao38, co38, eo38⟩ := Kd.R_slice HO443.out; subst eo38) | ((with_reducible refine gate_callee (f := 9) rfl ?_); refine gl_ (some 14) Tryd.func9 #[.agg #[.int .i64 t440, .slice Ao38 t441.length co38]] ?_; (with_reducible refine (spec_NetPut.calls k t440 _ _ t441 t444 _ ?side1 ?side2 A8.out).mono ?_); (case side1 => exact nc_ (Kd.R_reads' HO443.out).2.2); (case side2 => exact (Kd.R_reads' HO443.out).2.1); rintro e w39 ⟨rfl, hb⟩; refine ⟨_, rfl, ?_⟩; replace HO443 := kR_ HO443 hb; replace BK438 := kb_ BK438 hb; replace HB := kB_ HB hb; (try clear hb); (try clear hb2); (try clear hk); (try clear hi); obtain ⟨hcz40_0, hcz40_1, hfz40_0, hfz40_1⟩ := cz2_ BK438.out) | ((with_reducible refine gate_callee (f := 20) rfl ?_); refine gl_ (some 16) Tryd.func20 #[.agg #[.int .i64 a0_0, .slice A0_1 l0_1.length c0_1]] ?_; (with_reducible refine (laws_toNet.calls k a0_0 _ _ l0_1 t445 t446 _ ?side1 ?side2 A9.out).mono ?_); (case side1 => exact nc_ (Kd.C_below HR0_1.out HB.out)); (case side2 => exact HC0_1.out); rintro e w41 ⟨v447, rfl, ho0, hb⟩; refine ⟨_, rfl, ?_⟩; have HO448 := Aside0.mk (Kd.R_lower (Kd.R_new' ho0 (Kd.R_lt (nr_ HO443.out))) (below_size (ne_ HB.out))); replace HO443 := Aside0.mk (Kd.R_elder' (nr_ HO443.out) (Kd.R_base ho0) hb); replace BK438 := kb_ BK438 hb; replace HB := kB_ HB hb; (try clear hb); (try clear hb2); (try clear hk); (try clear hi); (try clear ho0)) | ((with_reducible refine gate_dst (N := 5) rfl ?_); refine bx_ 5 #[.int .i64 0, .slice none 0 0] 25 ?_; intro gb449 hg w42 hbox hb; have BK449 := Aside0.mk (hbox); have GW449 := Aside0.mk (zs_ hg (ne_ HB.out)); have GE449 := Aside0.mk (zs_ hg (ne_ HB.out)); have NB438_449 := Aside0.mk (nl_ BK438.out hg); have NB449_438 := Aside0.mk (nm_ BK438.out hg); replace HO443 := kR_ HO443 hb; replace HO448 := kR_ HO448 hb; replace BK438 := kb_ BK438 hb; replace HB := kB_ HB hb; clear hb hbox hg; have hnb43 := NB449_438.out; have hnc43 := NB438_449.out; obtain ⟨hcz44_0, hcz44_1, hfz44_0, hfz44_1⟩ := cz2_ BK449.out; obtain ⟨Ao45, co45, eo45⟩ := Kd.R_slice HO448.out; subst eo45) | ((with_reducible refine gate_callee (f := 8) rfl ?_); refine gl_ (some 18) Tryd.func8 #[.agg #[.int .i64 t445, .slice Ao45 t446.length co45]] ?_; (with_reducible refine (impl_NetPut.calls t445 _ _ t446 t450 _ ?side1 ?side2 A10.out).mono ?_); (case side1 => refine (Kd.R_reads' (e := 54) (base := w.heap.size) (ok := fun k_ => (True ∧ some k_ ≠ (.slice Ao38 t441.length co38 : Value).ownBlock)) (n := t446.length) (c := co45) ?_).2.2; exact (by (with_reducible repeat (first | apply Kd.R_alloc | apply Kd.R_drewN | apply Kd.R_drew)); exact (Kd.R_mono (rf2_ (Kd.R_types HO448.out BK449.out (by decide))) (fun _ h_ => h_.1)))); (case side2 => exact (Kd.R_reads' HO448.out).2.1); rintro e w46 ⟨rfl, hb⟩; refine ⟨_, rfl, ?_⟩; replace HO443 := Aside0.mk (Kd.R_below (by (with_reducible repeat (first | apply Kd.R_alloc | apply Kd.R_drewN | apply Kd.R_drew)); exact (Kd.R_mono (rf2_ (Kd.R_types HO443.out BK449.out (by decide))) (fun _ h_ => h_.1))) hb); replace HO448 := Aside0.mk (Kd.R_below (by (with_reducible repeat (first | apply Kd.R_alloc | apply Kd.R_drewN | apply Kd.R_drew)); exact (Kd.R_mono (rf2_ (Kd.R_types HO448.out BK449.out (by decide))) (fun _ h_ => h_.1))) hb); replace BK438 := kf_ BK438 hb; replace BK449 := Aside0.mk (blk_below (g := gb449) (o := .cells #[.int .i64 t445, .slice Ao45 t446.length co45] 25 (0, 0)) (np_ BK449.out) hb); replace HB := kB_ HB hb; (try clear hb); (try clear hb2); (try clear hk); (try clear hi)))
  replace HO443 := Aside0.mk (Kd.R_drew HO443.out)
  replace HO448 := Aside0.mk (Kd.R_drew HO448.out)
  replace BK438 := Aside0.mk (blk_drew BK438.out)
  replace BK449 := Aside0.mk (blk_drew BK449.out)
  replace HB := Aside0.mk (below_drew1 HB.out)
  refine start_ (n := 5) (S := fun w' => w'.cell? ⟨gb449, 0, none⟩ = some (.int .i64 t445) ∧ w'.cell? ⟨gb449, 1, none⟩ = some (.slice Ao45 t446.length co45) ∧ w'.cell? ⟨gb438, 0, none⟩ = some (.int .i64 a0_0) ∧ w'.cell? ⟨gb438, 1, none⟩ = some (.slice A0_1 l0_1.length c0_1)) (ds := []) #[false, false, false, false, false] (by kernel_rfl) rfl rfl ⟨ct_ BK449.out 0, ct_ BK449.out 1, ct_ BK438.out 0, ct_ BK438.out 1⟩ (fun hHeld => ?_)
  generalize w46.drew = w47 at HO443 HO448 BK438 BK449 HB hHeld ⊢
  refine take_ (i := 0) (N := some 22) (v := ?_) (a' := ?_) #[true, false, false, false, false] rfl rfl (by kernel_rfl) (fun _ _ _ h => h) (Or.inl ⟨by rfl, ?_⟩) hHeld ?_ ?_
  rotate_left
  ·rintro w' ⟨s0, s1, s2, s3⟩
   go_simp
   with_reducible rfl
  rotate_left
  ·simp only [Act.put, List.setIfInBounds_toArray, List.set_cons_zero, List.set_cons_succ, i64_w, i32_w]
   rfl
  refine take_ (i := 1) (N := some 23) (v := ?_) (a' := ?_) #[true, true, false, false, false] rfl rfl (by kernel_rfl) (fun _ _ _ h => h) (Or.inl ⟨by rfl, ?_⟩) hHeld ?_ ?_
  rotate_left
  ·rintro w' ⟨s0, s1, s2, s3⟩
   go_simp
   with_reducible rfl
  rotate_left
  ·simp only [Act.put, List.setIfInBounds_toArray, List.set_cons_zero, List.set_cons_succ, i64_w, i32_w]
   rfl
  refine one_ (i := 2) (N := some 24) #[true, true, true, false, false] rfl rfl (by kernel_rfl) (by decide) (fun K hK => ?_)
  refine go_ Tryd.func20 #[.agg #[.int .i64 a0_0, .slice A0_1 l0_1.length c0_1]] ?_
  with_reducible refine (laws_toNet.calls k a0_0 _ _ l0_1 t451 t452 _ ?side1 ?side2 A12.out).mono ?_
  (case side1 => exact nc_ (Kd.C_below HR0_1.out HB.out))
  (case side2 => exact HC0_1.out)
  rintro e w48 ⟨v453, rfl, ho0, hb⟩
  refine ⟨_, rfl, ?_⟩
  have HO454 := Aside0.mk (Kd.R_lower (Kd.R_new' (Kd.R_new' ho0 (Kd.R_lt (nr_ HO443.out))) (Kd.R_lt (nr_ HO448.out))) (below_size (ne_ HB.out)))
  replace HO443 := Aside0.mk (Kd.R_elder' (nr_ HO443.out) (Kd.R_base ho0) hb)
  replace HO448 := Aside0.mk (Kd.R_elder' (nr_ HO448.out) (Kd.R_base ho0) hb)
  replace BK438 := kb_ BK438 hb
  replace BK449 := kb_ BK449 hb
  replace HB := kB_ HB hb
  (try clear hb)
  (try clear hb2)
  (try clear hk)
  (try clear hi)
  (try clear ho0)
  obtain ⟨Ao49, co49, eo49⟩ := Kd.R_slice HO454.out
  (first | subst eo49 | (injection eo49 with f1_ f2_ f3_; have f4_ := f1_.symm; have f5_ := f3_.symm; clear f1_ f2_ f3_; subst f4_; subst f5_))
  refine hK.out _ _ ⟨ct_ BK449.out 0, ct_ BK449.out 1, ct_ BK438.out 0, ct_ BK438.out 1⟩ (fun hHeld => ?_)
  clear hK K
  refine nm1_ (some 24) ?_
  refine one_ (i := 3) (N := some 25) #[true, true, true, true, false] rfl rfl (by kernel_rfl) (by decide) (fun K hK => ?_)
  refine go_ Tryd.func16 #[.agg #[.int .i64 t445, .slice Ao45 t446.length co45], .agg #[.int .i64 t451, .slice Ao49 t452.length co49]] ?_
  with_reducible refine (laws_eqNet.calls k t445 _ _ t446 t451 _ _ t452 false _ ?side1 ?side2 ?side3 ?side4 A13.out).mono ?_
  (case side1 => exact nc_ (Kd.R_reads' HO448.out).2.2)
  (case side2 => exact (Kd.R_reads' HO448.out).2.1)
  (case side3 => exact nc_ (Kd.R_reads' HO454.out).2.2)
  (case side4 => exact (Kd.R_reads' HO454.out).2.1)
  rintro e w50 ⟨rfl, hb⟩
  refine ⟨_, rfl, ?_⟩
  replace HO443 := kR_ HO443 hb
  replace HO448 := kR_ HO448 hb
  replace HO454 := kR_ HO454 hb
  replace BK438 := kb_ BK438 hb
  replace BK449 := kb_ BK449 hb
  replace HB := kB_ HB hb
  (try clear hb)
  (try clear hb2)
  (try clear hk)
  (try clear hi)
  refine hK.out _ _ ⟨ct_ BK449.out 0, ct_ BK449.out 1, ct_ BK438.out 0, ct_ BK438.out 1⟩ (fun hHeld => ?_)
  clear hK K
  refine nm1_ (some 25) ?_
  refine pure_ (i := 4) (N := some 26) (v := ?_) (a' := ?_) #[true, true, true, true, true] rfl rfl (by kernel_rfl) (fun _ _ _ h => h) (Or.inl ⟨by rfl, ?_⟩) ?_ ?_
  rotate_left
  ·intro w'
   go_simp
   with_reducible rfl
  rotate_left
  ·simp only [Act.put, List.setIfInBounds_toArray, List.set_cons_zero, List.set_cons_succ, i64_w, i32_w]
   rfl
  refine done_ (by kernel_rfl) ?_
  try go_wp2
  go_ret
  exact ⟨nw_, ne_ HB.out⟩
/-- THE ONE PURE STATEMENT of laws_FnExactNetPut. -/
def laws_FnExactNetPut.Pure : Prop := ∀ (a0_0 : Int) (l0_1 : List (S88)), (Lit.int .i64 a0_0).wf = true → l0_1.length ≤ maxLen → (∀ x ∈ l0_1, (Lit.int .i64 x.f0).wf = true ∧ (Lit.int .i64 x.f1).wf = true ∧ (Lit.int .i64 x.f2).wf = true ∧ (Lit.int .i64 x.f3).wf = true ∧ (Lit.int .i64 x.f4).wf = true) → ∃ k, laws_FnExactNetPut.f k a0_0 l0_1 = some true
theorem laws_FnExactNetPut.walk (P : laws_FnExactNetPut.Pure) (a0_0 : Int) (A0_1 : Option Addr) (c0_1 : Nat) (l0_1 : List (S88)) (w : World) (hw0_0 : (Lit.int .i64 a0_0).wf = true) (hr0_1 : Kd.C k88 w A0_1 l0_1.length l0_1) (hm0_1 : l0_1.length ≤ maxLen) (hw0_1 : ∀ x ∈ l0_1, (Lit.int .i64 x.f0).wf = true ∧ (Lit.int .i64 x.f1).wf = true ∧ (Lit.int .i64 x.f2).wf = true ∧ (Lit.int .i64 x.f3).wf = true ∧ (Lit.int .i64 x.f4).wf = true) (hc0_1 : l0_1.length ≤ c0_1) :
    Calls Tryd.prog 6 #[.agg #[.int .i64 a0_0, .slice A0_1 l0_1.length c0_1]] w fun e w' => e = .returned (.bool true) ∧ Below w.heap.size w w' := by
  obtain ⟨k, h⟩ := P a0_0 l0_1 hw0_0 hm0_1 hw0_1
  refine (laws_FnExactNetPut.calls k a0_0 A0_1 c0_1 l0_1 true w hr0_1 hc0_1 h).mono ?_
  rintro e w' ⟨rfl, hd⟩
  exact ⟨rfl, hd⟩

end Go.Proofs.YtppjelkljihdoaaDoor.Print
