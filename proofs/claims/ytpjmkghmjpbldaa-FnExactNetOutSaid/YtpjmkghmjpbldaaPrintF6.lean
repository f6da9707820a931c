-- Made by this session's own program (wip/patch_print.py, over the kit's print). Lean checks it.
import Derived.Test.YtpjmkghmjpbldaaPrint0
import Derived.Test.YtpjmkghmjpbldaaPrintB
import Derived.Test.YtpjmkghmjpbldaaPrintF21
import Derived.Test.YtpjmkghmjpbldaaPrintF23
import Derived.Test.YtpjmkghmjpbldaaPrintF29
import Derived.Test.YtpjmkghmjpbldaaPrintF31
import Derived.Test.YtpjmkghmjpbldaaPrintF33
namespace Go.Proofs.Ytpjmkghmjpbldaa.Print
open Go.RowKit Go.Proofs.YtpjmkghmjpbldaaW.PrintWords Go.Proofs.YtpjmkghmjpbldaaW.PrintLast Go.Proofs.YtpjmkghmjpbldaaW.PrintMore Go.Proofs.YtpjmkghmjpbldaaX
attribute [local go_sem] max2_int min2_int max_two min_two max_three min_three max_four min_four   -- for this text's walks alone
set_option linter.unusedVariables false
set_option linter.unusedSimpArgs false

abbrev rA6 := @Kd.R_alloc
abbrev rN6 := @Kd.R_drewN
abbrev rD6 := @Kd.R_drew
abbrev rR6 := @Kd.R_reads'
/-! ### laws_FnExactNetOut: function 6 -/
def laws_FnExactNetOut.j0 : Nat → Int → List Int → List Int → Bool → Int → List (S101) → Option (Bool)
  | 0, _, _, _, _, _, _ => none
  | k + 1, x1, x6, x8, x46, x389000, x389001 => if x46 = true then (some false) else ((laws_markIntS.f k x8 1).bind fun bt414 => ((laws_heldIntS.f k bt414.2 1).bind fun t416 => (if t416 < 0 then (some false) else (if t416 = bt414.1 then ((laws_toNet.f k x389000 x389001).bind fun bt417 => ((impl_NetOut.f k bt417.1 bt417.2 x1).bind fun t421 => ((laws_eqIntS.f k t421 x6).bind fun t424 => (if t424 = true then ((laws_heldIntS.f k bt414.2 1).bind fun t425 => (if t425 < 0 then (some false) else (if t425 = bt414.1 then (some true) else (some false)))) else (some false))))) else (some false)))))
def laws_FnExactNetOut.f (k : Nat) (a0_0 : Int) (l0_1 : List (S101)) (a1 : Int) : Option (Bool) := (laws_szNet.f a0_0 l0_1 1048576).bind fun t389 => (if t389 < 0 then (some true) else ((laws_toNet.f k a0_0 l0_1).bind fun bt390 => ((spec_NetOut.f k bt390.1 bt390.2 a1).bind fun t394 => ((laws_toNet.f k a0_0 l0_1).bind fun bt397 => ((impl_NetOut.f k bt397.1 bt397.2 a1).bind fun t402 => ((laws_eqIntS.f k t402 t394).bind fun t405 => (if t405 = true then ((laws_toNet.f k a0_0 l0_1).bind fun bt406 => ((laws_eqNet.f k bt397.1 bt397.2 bt406.1 bt406.2).bind fun t410 => (if t410 = true then ((laws_markNet.f k bt397.1 bt397.2 1).bind fun bt411 => (if bt411.1 < 0 then (laws_FnExactNetOut.j0 k a1 t394 t402 true a0_0 l0_1) else ((laws_eqIntS.f k t402 t394).bind fun t413 => (laws_FnExactNetOut.j0 k a1 t394 t402 (!t413) a0_0 l0_1)))) else (some false)))) else (some false))))))))
theorem laws_FnExactNetOut.mono_l : ∀ k, (∀ y0 y1 y2 y3 y4 y5, LeO (laws_FnExactNetOut.j0 k y0 y1 y2 y3 y4 y5) (laws_FnExactNetOut.j0 (k + 1) y0 y1 y2 y3 y4 y5))
  | 0 => fun _ _ _ _ _ _ r h => by simp [laws_FnExactNetOut.j0] at h
  | k + 1 => by
    have ih0 := laws_FnExactNetOut.mono_l k
    · intro y0 y1 y2 y3 y4 y5
      unfold laws_FnExactNetOut.j0
      repeat' first | (with_reducible first | exact ih0 _ _ _ _ _ _ | exact impl_NetOut.mono _ _ _ _ | exact laws_eqIntS.mono _ _ _ | exact laws_eqNet.mono _ _ _ _ _ | exact laws_heldIntS.mono _ _ _ | exact laws_markIntS.mono _ _ _ | exact laws_markNet.mono _ _ _ _ | exact laws_toNet.mono _ _ _ | exact spec_NetOut.mono _ _ _ _ | exact LeO.refl _ | exact LeO.none _ | refine LeO.ite ?_ ?_ | refine LeO.bind ?_ (fun _ => ?_)) | exact ih0 _ _ _ _ _ _ | exact impl_NetOut.mono _ _ _ _ | exact laws_eqIntS.mono _ _ _ | exact laws_eqNet.mono _ _ _ _ _ | exact laws_heldIntS.mono _ _ _ | exact laws_markIntS.mono _ _ _ | exact laws_markNet.mono _ _ _ _ | exact laws_toNet.mono _ _ _ | exact spec_NetOut.mono _ _ _ _ | exact LeO.none _ | refine LeO.ite ?_ ?_ | refine LeO.bind ?_ (fun _ => ?_)
theorem laws_FnExactNetOut.mono : ∀ a0 a1 a2 k, LeO (laws_FnExactNetOut.f k a0 a1 a2) (laws_FnExactNetOut.f (k + 1) a0 a1 a2) := by
  intro a0 a1 a2 k
  have ih0 := laws_FnExactNetOut.mono_l k
  unfold laws_FnExactNetOut.f
  repeat' first | (with_reducible first | exact ih0 _ _ _ _ _ _ | exact impl_NetOut.mono _ _ _ _ | exact laws_eqIntS.mono _ _ _ | exact laws_eqNet.mono _ _ _ _ _ | exact laws_heldIntS.mono _ _ _ | exact laws_markIntS.mono _ _ _ | exact laws_markNet.mono _ _ _ _ | exact laws_toNet.mono _ _ _ | exact spec_NetOut.mono _ _ _ _ | exact LeO.refl _ | exact LeO.none _ | refine LeO.ite ?_ ?_ | refine LeO.bind ?_ (fun _ => ?_)) | exact ih0 _ _ _ _ _ _ | exact impl_NetOut.mono _ _ _ _ | exact laws_eqIntS.mono _ _ _ | exact laws_eqNet.mono _ _ _ _ _ | exact laws_heldIntS.mono _ _ _ | exact laws_markIntS.mono _ _ _ | exact laws_markNet.mono _ _ _ _ | exact laws_toNet.mono _ _ _ | exact spec_NetOut.mono _ _ _ _ | exact LeO.none _ | refine LeO.ite ?_ ?_ | refine LeO.bind ?_ (fun _ => ?_)
set_option maxHeartbeats 200000000 in
set_option maxRecDepth 100000 in
theorem laws_FnExactNetOut.calls (k : Nat) (a0_0 : Int) (A0_1 : Option Addr) (c0_1 : Nat) (l0_1 : List (S101)) (a1 : Int) (r : Bool) (w : World) (hr0_1 : Kd.C k101 w A0_1 l0_1.length l0_1) (hc0_1 : l0_1.length ≤ c0_1) (h : laws_FnExactNetOut.f k a0_0 l0_1 a1 = some r) :
    Calls Try.prog 6 #[.agg #[.int .i64 a0_0, .slice A0_1 l0_1.length c0_1], .int .i64 a1] w fun e w' => e = .returned (.bool r) ∧ Below w.heap.size w w' := by
  have hu24 := Try.underlying24
  have hu29 := Try.underlying29
  have HR0_1 := Aside0.mk hr0_1
  have HC0_1 := Aside0.mk hc0_1
  clear hr0_1 hc0_1
  have HB := Aside0.mk (Below.refl w.heap.size w)
  have H : ((laws_szNet.f a0_0 l0_1 1048576).bind fun t389 => (if t389 < 0 then (some true) else ((laws_toNet.f k a0_0 l0_1).bind fun bt390 => ((spec_NetOut.f k bt390.1 bt390.2 a1).bind fun t394 => ((laws_toNet.f k a0_0 l0_1).bind fun bt397 => ((impl_NetOut.f k bt397.1 bt397.2 a1).bind fun t402 => ((laws_eqIntS.f k t402 t394).bind fun t405 => (if t405 = true then ((laws_toNet.f k a0_0 l0_1).bind fun bt406 => ((laws_eqNet.f k bt397.1 bt397.2 bt406.1 bt406.2).bind fun t410 => (if t410 = true then ((laws_markNet.f k bt397.1 bt397.2 1).bind fun bt411 => (if bt411.1 < 0 then (laws_FnExactNetOut.j0 k a1 t394 t402 true a0_0 l0_1) else ((laws_eqIntS.f k t402 t394).bind fun t413 => (laws_FnExactNetOut.j0 k a1 t394 t402 (!t413) a0_0 l0_1)))) else (some false)))) else (some false))))))))) = some r := h
  clear h
  replace H := Option.bind_eq_some_iff.mp H
  obtain ⟨t389, A30, H⟩ := H
  try dsimp only at H
  have A3 := Aside0.mk A30
  clear A30
  by_cases c4 : t389 < 0
  ·rw [if_pos c4] at H
   have c4b0 : decide (t389 < 0) = true := decide_eq_true c4
   clear c4
   obtain rfl := Option.some.inj H
   go_enter Try.func6, Try.ntmps6
   go_wp2_with (first | ((with_reducible refine gate_dst (N := 2) rfl ?_); refine bx_ 2 #[.int .i64 a0_0, .slice A0_1 l0_1.length c0_1] 24 ?_; intro gb388 hg w5 hbox hb; have BK388 := Aside0.mk (hbox); have GW388 := Aside0.mk (zs_ hg (ne_ HB.out)); have GE388 := Aside0.mk (zs_ hg (ne_ HB.out)); replace HB := kB_ HB hb; clear hb hbox hg; obtain ⟨hcz6_0, hcz6_1, hfz6_0, hfz6_1⟩ := cz2_ BK388.out) | ((with_reducible refine gate_callee (f := 19) rfl ?_); refine gl_ (some 15) Try.func19 #[.agg #[.int .i64 a0_0, .slice A0_1 l0_1.length c0_1], .int .i64 1048576] ?_; (with_reducible refine (laws_szNet.calls a0_0 _ _ l0_1 1048576 t389 _ ?side1 ?side2 A3.out).mono ?_); (case side1 => exact nc_ (Kd.C_below HR0_1.out HB.out)); (case side2 => exact HC0_1.out); rintro e w7 ⟨rfl, hb⟩; refine ⟨_, rfl, ?_⟩; replace BK388 := kb_ BK388 hb; replace HB := kB_ HB hb; (try clear hb); (try clear hb2); (try clear hk); (try clear hi)))
   go_ret
   exact ⟨nw_, ne_ HB.out⟩
  rw [if_neg c4] at H
  have c4b0 : decide (t389 < 0) = false := decide_eq_false c4
  clear c4
  replace H := Option.bind_eq_some_iff.mp H
  obtain ⟨⟨t390, t391⟩, A80, H⟩ := H
  try dsimp only at H
  have A8 := Aside0.mk A80
  clear A80
  replace H := Option.bind_eq_some_iff.mp H
  obtain ⟨t394, A90, H⟩ := H
  try dsimp only at H
  have A9 := Aside0.mk A90
  clear A90
  replace H := Option.bind_eq_some_iff.mp H
  obtain ⟨⟨t397, t398⟩, A100, H⟩ := H
  try dsimp only at H
  have A10 := Aside0.mk A100
  clear A100
  replace H := Option.bind_eq_some_iff.mp H
  obtain ⟨t402, A110, H⟩ := H
  try dsimp only at H
  have A11 := Aside0.mk A110
  clear A110
  replace H := Option.bind_eq_some_iff.mp H
  obtain ⟨t405, A120, H⟩ := H
  try dsimp only at H
  have A12 := Aside0.mk A120
  clear A120
  by_cases c13 : t405 = true
  rotate_left
  ·replace c13 := Bool.eq_false_iff.mpr c13
   subst c13
   have H1 : (some false) = some r := by rw [if_neg (show ¬ (false = true) by decide)] at H; exact H
   clear H
   have H := H1
   clear H1
   obtain rfl := Option.some.inj H
   go_enter Try.func6, Try.ntmps6
   go_wp2_with (first | ((with_reducible refine gate_dst (N := 2) rfl ?_); refine bx_ 2 #[.int .i64 a0_0, .slice A0_1 l0_1.length c0_1] 24 ?_; intro gb388 hg w105 hbox hb; have BK388 := Aside0.mk (hbox); have GW388 := Aside0.mk (zs_ hg (ne_ HB.out)); have GE388 := Aside0.mk (zs_ hg (ne_ HB.out)); replace HB := kB_ HB hb; clear hb hbox hg; obtain ⟨hcz106_0, hcz106_1, hfz106_0, hfz106_1⟩ := cz2_ BK388.out) | ((with_reducible refine gate_callee (f := 19) rfl ?_); refine gl_ (some 15) Try.func19 #[.agg #[.int .i64 a0_0, .slice A0_1 l0_1.length c0_1], .int .i64 1048576] ?_; (with_reducible refine (laws_szNet.calls a0_0 _ _ l0_1 1048576 t389 _ ?side1 ?side2 A3.out).mono ?_); (case side1 => exact nc_ (Kd.C_below HR0_1.out HB.out)); (case side2 => exact HC0_1.out); rintro e w107 ⟨rfl, hb⟩; refine ⟨_, rfl, ?_⟩; replace BK388 := kb_ BK388 hb; replace HB := kB_ HB hb; (try clear hb); (try clear hb2); (try clear hk); (try clear hi); obtain ⟨hcz108_0, hcz108_1, hfz108_0, hfz108_1⟩ := cz2_ BK388.out) | ((with_reducible refine gate_callee (f := 21) rfl ?_); refine gl_ (some 19) Try.func21 #[.agg #[.int .i64 a0_0, .slice A0_1 l0_1.length c0_1]] ?_; (with_reducible refine (laws_toNet.calls k a0_0 _ _ l0_1 t390 t391 _ ?side1 ?side2 A8.out).mono ?_); (case side1 => exact nc_ (Kd.C_below HR0_1.out HB.out)); (case side2 => exact HC0_1.out); rintro e w109 ⟨v392, rfl, ho0, hb⟩; refine ⟨_, rfl, ?_⟩; have HO393 := Aside0.mk (Kd.R_lower ho0 (below_size (ne_ HB.out))); replace BK388 := kb_ BK388 hb; replace HB := kB_ HB hb; (try clear hb); (try clear hb2); (try clear hk); (try clear hi); (try clear ho0); obtain ⟨Ao110, co110, eo110⟩ := Kd.R_slice HO393.out; subst eo110) | ((with_reducible refine gate_callee (f := 31) rfl ?_); refine gl_ (some 21) Try.func31 #[.agg #[.int .i64 t390, .slice Ao110 t391.length co110], .int .i64 a1] ?_; (with_reducible refine (spec_NetOut.calls k t390 _ _ t391 a1 t394 _ ?side1 ?side2 A9.out).mono ?_); (case side1 => exact nc_ (rR6 HO393.out).2.2); (case side2 => exact (rR6 HO393.out).2.1); rintro e w111 ⟨v395, rfl, ho0, hb⟩; refine ⟨_, rfl, ?_⟩; have HO396 := Aside0.mk (Kd.R_lower ho0 (below_size (ne_ HB.out))); replace HO393 := kR_ HO393 hb; replace BK388 := kb_ BK388 hb; replace HB := kB_ HB hb; (try clear hb); (try clear hb2); (try clear hk); (try clear hi); (try clear ho0); obtain ⟨hcz112_0, hcz112_1, hfz112_0, hfz112_1⟩ := cz2_ BK388.out) | ((with_reducible refine gate_callee (f := 21) rfl ?_); refine gl_ (some 23) Try.func21 #[.agg #[.int .i64 a0_0, .slice A0_1 l0_1.length c0_1]] ?_; (with_reducible refine (laws_toNet.calls k a0_0 _ _ l0_1 t397 t398 _ ?side1 ?side2 A10.out).mono ?_); (case side1 => exact nc_ (Kd.C_below HR0_1.out HB.out)); (case side2 => exact HC0_1.out); rintro e w113 ⟨v399, rfl, ho0, hb⟩; refine ⟨_, rfl, ?_⟩; have HO400 := Aside0.mk (Kd.R_lower (Kd.R_new' ho0 (Kd.R_lt (nr_ HO393.out))) (below_size (ne_ HB.out))); replace HO393 := Aside0.mk (Kd.R_elder' (nr_ HO393.out) (Kd.R_base ho0) hb); replace HO396 := kR_ HO396 hb; replace BK388 := kb_ BK388 hb; replace HB := kB_ HB hb; (try clear hb); (try clear hb2); (try clear hk); (try clear hi); (try clear ho0)) | ((with_reducible refine gate_dst (N := 7) rfl ?_); refine bx_ 7 #[.int .i64 0, .slice none 0 0] 29 ?_; intro gb401 hg w114 hbox hb; have BK401 := Aside0.mk (hbox); have GW401 := Aside0.mk (zs_ hg (ne_ HB.out)); have GE401 := Aside0.mk (zs_ hg (ne_ HB.out)); have NB388_401 := Aside0.mk (nl_ BK388.out hg); have NB401_388 := Aside0.mk (nm_ BK388.out hg); replace HO393 := kR_ HO393 hb; replace HO396 := kR_ HO396 hb; replace HO400 := kR_ HO400 hb; replace BK388 := kb_ BK388 hb; replace HB := kB_ HB hb; clear hb hbox hg; have hnb115 := NB401_388.out; have hnc115 := NB388_401.out; obtain ⟨hcz116_0, hcz116_1, hfz116_0, hfz116_1⟩ := cz2_ BK401.out; obtain ⟨Ao117, co117, eo117⟩ := Kd.R_slice HO400.out; subst eo117) | ((with_reducible refine gate_callee (f := 29) rfl ?_); refine gl_ (some 26) Try.func29 #[.agg #[.int .i64 t397, .slice Ao117 t398.length co117], .int .i64 a1] ?_; (with_reducible refine (impl_NetOut.calls k t397 _ _ t398 a1 t402 _ ?side1 ?side2 A11.out).mono ?_); (case side1 => refine (rR6 (e := 37) (base := w.heap.size) (ok := fun k_ => (True ∧ some k_ ≠ (.slice Ao110 t391.length co110 : Value).ownBlock)) (n := t398.length) (c := co117) ?_).2.2; exact (by (with_reducible repeat (first | apply rA6 | apply rN6 | apply rD6)); exact (Kd.R_mono (rf2_ (Kd.R_types HO400.out BK401.out (by decide))) (fun _ h_ => h_.1)))); (case side2 => exact (rR6 HO400.out).2.1); rintro e w118 ⟨v403, rfl, ho0, hb⟩; refine ⟨_, rfl, ?_⟩; have HO404 := Aside0.mk (Kd.R_lower (Kd.R_new' ho0 (Kd.R_lt (by (with_reducible repeat (first | apply rA6 | apply rN6 | apply rD6)); exact (Kd.R_mono (rf2_ (Kd.R_types HO396.out BK401.out (by decide))) (fun _ h_ => h_.1))))) (below_size (ne_ HB.out))); replace HO393 := Aside0.mk (Kd.R_below (by (with_reducible repeat (first | apply rA6 | apply rN6 | apply rD6)); exact (Kd.R_mono (rf2_ (Kd.R_types HO393.out BK401.out (by decide))) (fun _ h_ => h_.1))) hb); replace HO396 := Aside0.mk (Kd.R_elder' (by (with_reducible repeat (first | apply rA6 | apply rN6 | apply rD6)); exact (Kd.R_mono (rf2_ (Kd.R_types HO396.out BK401.out (by decide))) (fun _ h_ => h_.1))) (Kd.R_base ho0) hb); replace HO400 := Aside0.mk (Kd.R_below (by (with_reducible repeat (first | apply rA6 | apply rN6 | apply rD6)); exact (Kd.R_mono (rf2_ (Kd.R_types HO400.out BK401.out (by decide))) (fun _ h_ => h_.1))) hb); replace BK388 := kf_ BK388 hb; replace BK401 := Aside0.mk (blk_below (g := gb401) (o := .cells #[.int .i64 t397, .slice Ao117 t398.length co117] 29 (0, 0)) (np_ BK401.out) hb); replace HB := kB_ HB hb; (try clear hb); (try clear hb2); (try clear hk); (try clear hi); (try clear ho0); obtain ⟨Ao119, co119, eo119⟩ := Kd.R_slice HO404.out; subst eo119; obtain ⟨Ao120, co120, eo120⟩ := Kd.R_slice HO396.out; subst eo120) | ((with_reducible refine gate_callee (f := 32) rfl ?_); refine gl_ (some 29) Try.func32 #[.slice Ao119 t402.length co119, .slice Ao120 t394.length co120] ?_; (with_reducible refine (laws_eqIntS.calls k _ _ t402 _ _ t394 false _ ?side1 ?side2 ?side3 ?side4 A12.out).mono ?_); (case side1 => exact nc_ (rR6 HO404.out).2.2); (case side2 => exact (rR6 HO404.out).2.1); (case side3 => exact nc_ (rR6 HO396.out).2.2); (case side4 => exact (rR6 HO396.out).2.1); rintro e w' ⟨rfl, ⟨nd, rfl⟩⟩; refine ⟨_, rfl, ?_⟩))
   go_ret
   exact ⟨nw_, ne_ HB.out⟩

  subst c13
  rw [if_pos rfl] at H
  replace H := Option.bind_eq_some_iff.mp H
  obtain ⟨⟨t406, t407⟩, A140, H⟩ := H
  try dsimp only at H
  have A14 := Aside0.mk A140
  clear A140
  replace H := Option.bind_eq_some_iff.mp H
  obtain ⟨t410, A150, H⟩ := H
  try dsimp only at H
  have A15 := Aside0.mk A150
  clear A150
  by_cases c16 : t410 = true
  rotate_left
  ·replace c16 := Bool.eq_false_iff.mpr c16
   subst c16
   have H1 : (some false) = some r := by rw [if_neg (show ¬ (false = true) by decide)] at H; exact H
   clear H
   have H := H1
   clear H1
   obtain rfl := Option.some.inj H
   go_enter Try.func6, Try.ntmps6
   try go_wp2_with (first | ((with_reducible refine gate_dst (N := 2) rfl ?_); refine bx_ 2 #[.int .i64 a0_0, .slice A0_1 l0_1.length c0_1] 24 ?_; intro gb388 hg w85 hbox hb; have BK388 := Aside0.mk (hbox); have GW388 := Aside0.mk (zs_ hg (ne_ HB.out)); have GE388 := Aside0.mk (zs_ hg (ne_ HB.out)); replace HB := kB_ HB hb; clear hb hbox hg; obtain ⟨hcz86_0, hcz86_1, hfz86_0, hfz86_1⟩ := cz2_ BK388.out) | ((with_reducible refine gate_callee (f := 19) rfl ?_); refine gl_ (some 15) Try.func19 #[.agg #[.int .i64 a0_0, .slice A0_1 l0_1.length c0_1], .int .i64 1048576] ?_; (with_reducible refine (laws_szNet.calls a0_0 _ _ l0_1 1048576 t389 _ ?side1 ?side2 A3.out).mono ?_); (case side1 => exact nc_ (Kd.C_below HR0_1.out HB.out)); (case side2 => exact HC0_1.out); rintro e w87 ⟨rfl, hb⟩; refine ⟨_, rfl, ?_⟩; replace BK388 := kb_ BK388 hb; replace HB := kB_ HB hb; (try clear hb); (try clear hb2); (try clear hk); (try clear hi); obtain ⟨hcz88_0, hcz88_1, hfz88_0, hfz88_1⟩ := cz2_ BK388.out) | ((with_reducible refine gate_callee (f := 21) rfl ?_); refine gl_ (some 19) Try.func21 #[.agg #[.int .i64 a0_0, .slice A0_1 l0_1.length c0_1]] ?_; (with_reducible refine (laws_toNet.calls k a0_0 _ _ l0_1 t390 t391 _ ?side1 ?side2 A8.out).mono ?_); (case side1 => exact nc_ (Kd.C_below HR0_1.out HB.out)); (case side2 => exact HC0_1.out); rintro e w89 ⟨v392, rfl, ho0, hb⟩; refine ⟨_, rfl, ?_⟩; have HO393 := Aside0.mk (Kd.R_lower ho0 (below_size (ne_ HB.out))); replace BK388 := kb_ BK388 hb; replace HB := kB_ HB hb; (try clear hb); (try clear hb2); (try clear hk); (try clear hi); (try clear ho0); obtain ⟨Ao90, co90, eo90⟩ := Kd.R_slice HO393.out; subst eo90) | ((with_reducible refine gate_callee (f := 31) rfl ?_); refine gl_ (some 21) Try.func31 #[.agg #[.int .i64 t390, .slice Ao90 t391.length co90], .int .i64 a1] ?_; (with_reducible refine (spec_NetOut.calls k t390 _ _ t391 a1 t394 _ ?side1 ?side2 A9.out).mono ?_); (case side1 => exact nc_ (rR6 HO393.out).2.2); (case side2 => exact (rR6 HO393.out).2.1); rintro e w91 ⟨v395, rfl, ho0, hb⟩; refine ⟨_, rfl, ?_⟩; have HO396 := Aside0.mk (Kd.R_lower ho0 (below_size (ne_ HB.out))); replace HO393 := kR_ HO393 hb; replace BK388 := kb_ BK388 hb; replace HB := kB_ HB hb; (try clear hb); (try clear hb2); (try clear hk); (try clear hi); (try clear ho0); obtain ⟨hcz92_0, hcz92_1, hfz92_0, hfz92_1⟩ := cz2_ BK388.out) | ((with_reducible refine gate_callee (f := 21) rfl ?_); refine gl_ (some 23) Try.func21 #[.agg #[.int .i64 a0_0, .slice A0_1 l0_1.length c0_1]] ?_; (with_reducible refine (laws_toNet.calls k a0_0 _ _ l0_1 t397 t398 _ ?side1 ?side2 A10.out).mono ?_); (case side1 => exact nc_ (Kd.C_below HR0_1.out HB.out)); (case side2 => exact HC0_1.out); rintro e w93 ⟨v399, rfl, ho0, hb⟩; refine ⟨_, rfl, ?_⟩; have HO400 := Aside0.mk (Kd.R_lower (Kd.R_new' ho0 (Kd.R_lt (nr_ HO393.out))) (below_size (ne_ HB.out))); replace HO393 := Aside0.mk (Kd.R_elder' (nr_ HO393.out) (Kd.R_base ho0) hb); replace HO396 := kR_ HO396 hb; replace BK388 := kb_ BK388 hb; replace HB := kB_ HB hb; (try clear hb); (try clear hb2); (try clear hk); (try clear hi); (try clear ho0)) | ((with_reducible refine gate_dst (N := 7) rfl ?_); refine bx_ 7 #[.int .i64 0, .slice none 0 0] 29 ?_; intro gb401 hg w94 hbox hb; have BK401 := Aside0.mk (hbox); have GW401 := Aside0.mk (zs_ hg (ne_ HB.out)); have GE401 := Aside0.mk (zs_ hg (ne_ HB.out)); have NB388_401 := Aside0.mk (nl_ BK388.out hg); have NB401_388 := Aside0.mk (nm_ BK388.out hg); replace HO393 := kR_ HO393 hb; replace HO396 := kR_ HO396 hb; replace HO400 := kR_ HO400 hb; replace BK388 := kb_ BK388 hb; replace HB := kB_ HB hb; clear hb hbox hg; have hnb95 := NB401_388.out; have hnc95 := NB388_401.out; obtain ⟨hcz96_0, hcz96_1, hfz96_0, hfz96_1⟩ := cz2_ BK401.out; obtain ⟨Ao97, co97, eo97⟩ := Kd.R_slice HO400.out; subst eo97) | ((with_reducible refine gate_callee (f := 29) rfl ?_); refine gl_ (some 26) Try.func29 #[.agg #[.int .i64 t397, .slice Ao97 t398.length co97], .int .i64 a1] ?_; (with_reducible refine (impl_NetOut.calls k t397 _ _ t398 a1 t402 _ ?side1 ?side2 A11.out).mono ?_); (case side1 => refine (rR6 (e := 37) (base := w.heap.size) (ok := fun k_ => (True ∧ some k_ ≠ (.slice Ao90 t391.length co90 : Value).ownBlock)) (n := t398.length) (c := co97) ?_).2.2; exact (by (with_reducible repeat (first | apply rA6 | apply rN6 | apply rD6)); exact (Kd.R_mono (rf2_ (Kd.R_types HO400.out BK401.out (by decide))) (fun _ h_ => h_.1)))); (case side2 => exact (rR6 HO400.out).2.1); rintro e w98 ⟨v403, rfl, ho0, hb⟩; refine ⟨_, rfl, ?_⟩; have HO404 := Aside0.mk (Kd.R_lower (Kd.R_new' ho0 (Kd.R_lt (by (with_reducible repeat (first | apply rA6 | apply rN6 | apply rD6)); exact (Kd.R_mono (rf2_ (Kd.R_types HO396.out BK401.out (by decide))) (fun _ h_ => h_.1))))) (below_size (ne_ HB.out))); replace HO393 := Aside0.mk (Kd.R_below (by (with_reducible repeat (first | apply rA6 | apply rN6 | apply rD6)); exact (Kd.R_mono (rf2_ (Kd.R_types HO393.out BK401.out (by decide))) (fun _ h_ => h_.1))) hb); replace HO396 := Aside0.mk (Kd.R_elder' (by (with_reducible repeat (first | apply rA6 | apply rN6 | apply rD6)); exact (Kd.R_mono (rf2_ (Kd.R_types HO396.out BK401.out (by decide))) (fun _ h_ => h_.1))) (Kd.R_base ho0) hb); replace HO400 := Aside0.mk (Kd.R_below (by (with_reducible repeat (first | apply rA6 | apply rN6 | apply rD6)); exact (Kd.R_mono (rf2_ (Kd.R_types HO400.out BK401.out (by decide))) (fun _ h_ => h_.1))) hb); replace BK388 := kf_ BK388 hb; replace BK401 := Aside0.mk (blk_below (g := gb401) (o := .cells #[.int .i64 t397, .slice Ao97 t398.length co97] 29 (0, 0)) (np_ BK401.out) hb); replace HB := kB_ HB hb; (try clear hb); (try clear hb2); (try clear hk); (try clear hi); (try clear ho0); obtain ⟨Ao99, co99, eo99⟩ := Kd.R_slice HO404.out; subst eo99; obtain ⟨Ao100, co100, eo100⟩ := Kd.R_slice HO396.out; subst eo100) | ((with_reducible refine gate_callee (f := 32) rfl ?_); refine gl_ (some 29) Try.func32 #[.slice Ao99 t402.length co99, .slice Ao100 t394.length co100] ?_; (with_reducible refine (laws_eqIntS.calls k _ _ t402 _ _ t394 true _ ?side1 ?side2 ?side3 ?side4 A12.out).mono ?_); (case side1 => exact nc_ (rR6 HO404.out).2.2); (case side2 => exact (rR6 HO404.out).2.1); (case side3 => exact nc_ (rR6 HO396.out).2.2); (case side4 => exact (rR6 HO396.out).2.1); rintro e w' ⟨rfl, ⟨nd, rfl⟩⟩; refine ⟨_, rfl, ?_⟩))
   (first | (rw [drewN_self w98]; generalize hq_ : World.drewN w98 _ = w98; replace HO393 : Aside0 (Kd.R k37 37 w98 w.heap.size (fun k_ => some k_ ≠ (.slice Ao97 t398.length co97 : Value).ownBlock) (.slice Ao90 t391.length co90) t391) := ⟨by rw [← hq_]; exact (by (with_reducible repeat (first | apply rA6 | apply rN6 | apply rD6)); exact Kd.R_mono HO393.out (fun _ hk => by first | exact hk.2 | trivial | simp_all))⟩; replace HO396 : Aside0 (Kd.R (Kd.int .i64) 3 w98 w.heap.size (fun k_ => some k_ ≠ (.slice Ao99 t402.length co99 : Value).ownBlock) (.slice Ao100 t394.length co100) t394) := ⟨by rw [← hq_]; exact (by (with_reducible repeat (first | apply rA6 | apply rN6 | apply rD6)); exact Kd.R_mono HO396.out (fun _ hk => by first | exact hk.2 | trivial | simp_all))⟩; replace HO400 : Aside0 (Kd.R k37 37 w98 w.heap.size (fun k_ => some k_ ≠ (.slice Ao90 t391.length co90 : Value).ownBlock) (.slice Ao97 t398.length co97) t398) := ⟨by rw [← hq_]; exact (by (with_reducible repeat (first | apply rA6 | apply rN6 | apply rD6)); exact Kd.R_mono HO400.out (fun _ hk => by first | exact hk.2 | trivial | simp_all))⟩; replace HO404 : Aside0 (Kd.R (Kd.int .i64) 3 w98 w.heap.size (fun k_ => some k_ ≠ (.slice Ao100 t394.length co100 : Value).ownBlock) (.slice Ao99 t402.length co99) t402) := ⟨by rw [← hq_]; exact (by (with_reducible repeat (first | apply rA6 | apply rN6 | apply rD6)); exact Kd.R_mono HO404.out (fun _ hk => by first | exact hk.2 | trivial | simp_all))⟩; replace BK388 : Aside0 (w98.heap[gb388]? = some (.cells #[.int .i64 a0_0, .slice A0_1 l0_1.length c0_1] 24 (0, 0))) := ⟨by rw [← hq_]; exact (nb_ BK388.out)⟩; replace BK401 : Aside0 (w98.heap[gb401]? = some (.cells #[.int .i64 t397, .slice Ao97 t398.length co97] 29 (0, 0))) := ⟨by rw [← hq_]; exact (nb_ BK401.out)⟩; replace HB : Aside0 (Below w.heap.size w w98) := ⟨by rw [← hq_]; exact (ne_ HB.out)⟩; clear hq_) | (have n0_ : Aside0 (Kd.R k37 37 w98 w.heap.size (fun k_ => some k_ ≠ (.slice Ao97 t398.length co97 : Value).ownBlock) (.slice Ao90 t391.length co90) t391) := ⟨(by (with_reducible repeat (first | apply rA6 | apply rN6 | apply rD6)); exact Kd.R_mono HO393.out (fun _ hk => by first | exact hk.2 | trivial | simp_all))⟩; have n1_ : Aside0 (Kd.R (Kd.int .i64) 3 w98 w.heap.size (fun k_ => some k_ ≠ (.slice Ao99 t402.length co99 : Value).ownBlock) (.slice Ao100 t394.length co100) t394) := ⟨(by (with_reducible repeat (first | apply rA6 | apply rN6 | apply rD6)); exact Kd.R_mono HO396.out (fun _ hk => by first | exact hk.2 | trivial | simp_all))⟩; have n2_ : Aside0 (Kd.R k37 37 w98 w.heap.size (fun k_ => some k_ ≠ (.slice Ao90 t391.length co90 : Value).ownBlock) (.slice Ao97 t398.length co97) t398) := ⟨(by (with_reducible repeat (first | apply rA6 | apply rN6 | apply rD6)); exact Kd.R_mono HO400.out (fun _ hk => by first | exact hk.2 | trivial | simp_all))⟩; have n3_ : Aside0 (Kd.R (Kd.int .i64) 3 w98 w.heap.size (fun k_ => some k_ ≠ (.slice Ao100 t394.length co100 : Value).ownBlock) (.slice Ao99 t402.length co99) t402) := ⟨(by (with_reducible repeat (first | apply rA6 | apply rN6 | apply rD6)); exact Kd.R_mono HO404.out (fun _ hk => by first | exact hk.2 | trivial | simp_all))⟩; have n4_ : Aside0 (w98.heap[gb388]? = some (.cells #[.int .i64 a0_0, .slice A0_1 l0_1.length c0_1] 24 (0, 0))) := ⟨(nb_ BK388.out)⟩; have n5_ : Aside0 (w98.heap[gb401]? = some (.cells #[.int .i64 t397, .slice Ao97 t398.length co97] 29 (0, 0))) := ⟨(nb_ BK401.out)⟩; have n6_ : Aside0 (Below w.heap.size w w98) := ⟨(ne_ HB.out)⟩; clear HO393 HO396 HO400 HO404 BK388 BK401 HB; have HO393 := n0_; have HO396 := n1_; have HO400 := n2_; have HO404 := n3_; have BK388 := n4_; have BK401 := n5_; have HB := n6_; clear n0_ n1_ n2_ n3_ n4_ n5_ n6_))
   replace HO393 := Aside0.mk (rD6 HO393.out)
   replace HO396 := Aside0.mk (rD6 HO396.out)
   replace HO400 := Aside0.mk (rD6 HO400.out)
   replace HO404 := Aside0.mk (rD6 HO404.out)
   replace BK388 := Aside0.mk (blk_drew BK388.out)
   replace BK401 := Aside0.mk (blk_drew BK401.out)
   replace HB := Aside0.mk (below_drew1 HB.out)
   refine start_ (n := 5) (S := fun w' => w'.cell? ⟨gb401, 0, none⟩ = some (.int .i64 t397) ∧ w'.cell? ⟨gb401, 1, none⟩ = some (.slice Ao97 t398.length co97) ∧ w'.cell? ⟨gb388, 0, none⟩ = some (.int .i64 a0_0) ∧ w'.cell? ⟨gb388, 1, none⟩ = some (.slice A0_1 l0_1.length c0_1)) (ds := []) #[false, false, false, false, false] (by kernel_rfl) rfl rfl ⟨ct_ BK401.out 0, ct_ BK401.out 1, ct_ BK388.out 0, ct_ BK388.out 1⟩ (fun hHeld => ?_)
   generalize w98.drew = w101 at HO393 HO396 HO400 HO404 BK388 BK401 HB hHeld ⊢
   refine take_ (i := 0) (N := some 31) (v := ?_) (a' := ?_) #[true, false, false, false, false] rfl rfl (by kernel_rfl) (fun _ _ _ h => h) (Or.inl ⟨by rfl, ?_⟩) hHeld ?_ ?_
   rotate_left
   ·rintro w' ⟨s0, s1, s2, s3⟩
    go_simp
    with_reducible rfl
   rotate_left
   ·simp only [Act.put, List.setIfInBounds_toArray, List.set_cons_zero, List.set_cons_succ, i64_w, i32_w]
    rfl
   refine take_ (i := 1) (N := some 32) (v := ?_) (a' := ?_) #[true, true, false, false, false] rfl rfl (by kernel_rfl) (fun _ _ _ h => h) (Or.inl ⟨by rfl, ?_⟩) hHeld ?_ ?_
   rotate_left
   ·rintro w' ⟨s0, s1, s2, s3⟩
    go_simp
    with_reducible rfl
   rotate_left
   ·simp only [Act.put, List.setIfInBounds_toArray, List.set_cons_zero, List.set_cons_succ, i64_w, i32_w]
    rfl
   refine one_ (i := 2) (N := some 33) #[true, true, true, false, false] rfl rfl (by kernel_rfl) (by decide) (fun K hK => ?_)
   refine go_ Try.func21 #[.agg #[.int .i64 a0_0, .slice A0_1 l0_1.length c0_1]] ?_
   with_reducible refine (laws_toNet.calls k a0_0 _ _ l0_1 t406 t407 _ ?side1 ?side2 A14.out).mono ?_
   (case side1 => exact nc_ (Kd.C_below HR0_1.out HB.out))
   (case side2 => exact HC0_1.out)
   rintro e w102 ⟨v408, rfl, ho0, hb⟩
   refine ⟨_, rfl, ?_⟩
   replace HO396 := kR_ HO396 hb
   replace HO404 := kR_ HO404 hb
   have HO409 := Aside0.mk (Kd.R_lower (Kd.R_new' (Kd.R_new' ho0 (Kd.R_lt (nr_ HO393.out))) (Kd.R_lt (nr_ HO400.out))) (below_size (ne_ HB.out)))
   replace HO393 := Aside0.mk (Kd.R_elder' (nr_ HO393.out) (Kd.R_base ho0) hb)
   replace HO400 := Aside0.mk (Kd.R_elder' (nr_ HO400.out) (Kd.R_base ho0) hb)
   replace BK388 := kb_ BK388 hb
   replace BK401 := kb_ BK401 hb
   replace HB := kB_ HB hb
   (try clear hb)
   (try clear hb2)
   (try clear hk)
   (try clear hi)
   (try clear ho0)
   obtain ⟨Ao103, co103, eo103⟩ := Kd.R_slice HO409.out
   (first | subst eo103 | (injection eo103 with f1_ f2_ f3_; have f4_ := f1_.symm; have f5_ := f3_.symm; clear f1_ f2_ f3_; subst f4_; subst f5_))
   refine hK.out _ _ ⟨ct_ BK401.out 0, ct_ BK401.out 1, ct_ BK388.out 0, ct_ BK388.out 1⟩ (fun hHeld => ?_)
   clear hK K
   refine nm1_ (some 33) ?_
   refine one_ (i := 3) (N := some 34) #[true, true, true, true, false] rfl rfl (by kernel_rfl) (by decide) (fun K hK => ?_)
   refine go_ Try.func23 #[.agg #[.int .i64 t397, .slice Ao97 t398.length co97], .agg #[.int .i64 t406, .slice Ao103 t407.length co103]] ?_
   with_reducible refine (laws_eqNet.calls k t397 _ _ t398 t406 _ _ t407 false _ ?side1 ?side2 ?side3 ?side4 A15.out).mono ?_
   (case side1 => exact nc_ (rR6 HO400.out).2.2)
   (case side2 => exact (rR6 HO400.out).2.1)
   (case side3 => exact nc_ (rR6 HO409.out).2.2)
   (case side4 => exact (rR6 HO409.out).2.1)
   rintro e w104 ⟨rfl, hb⟩
   refine ⟨_, rfl, ?_⟩
   replace HO393 := kR_ HO393 hb
   replace HO396 := kR_ HO396 hb
   replace HO400 := kR_ HO400 hb
   replace HO404 := kR_ HO404 hb
   replace HO409 := kR_ HO409 hb
   replace BK388 := kb_ BK388 hb
   replace BK401 := kb_ BK401 hb
   replace HB := kB_ HB hb
   (try clear hb)
   (try clear hb2)
   (try clear hk)
   (try clear hi)
   refine hK.out _ _ ⟨ct_ BK401.out 0, ct_ BK401.out 1, ct_ BK388.out 0, ct_ BK388.out 1⟩ (fun hHeld => ?_)
   clear hK K
   refine nm1_ (some 34) ?_
   refine pure_ (i := 4) (N := some 35) (v := ?_) (a' := ?_) #[true, true, true, true, true] rfl rfl (by kernel_rfl) (fun _ _ _ h => h) (Or.inl ⟨by rfl, ?_⟩) ?_ ?_
   rotate_left
   ·intro w'
    go_simp
    with_reducible rfl
   rotate_left
   ·simp only [Act.put, List.setIfInBounds_toArray, List.set_cons_zero, List.set_cons_succ, i64_w, i32_w]
    rfl
   refine done_ (by kernel_rfl) ?_
   try go_wp2
   go_ret
   exact ⟨nw_, ne_ HB.out⟩
  subst c16
  rw [if_pos rfl] at H
  replace H := Option.bind_eq_some_iff.mp H
  obtain ⟨⟨t411, t412⟩, A170, H⟩ := H
  try dsimp only at H
  have A17 := Aside0.mk A170
  clear A170
  have HC18 := Aside0.mk H
  clear H
  go_enter Try.func6, Try.ntmps6
  try go_wp2_with (first | ((with_reducible refine gate_dst (N := 2) rfl ?_); refine bx_ 2 #[.int .i64 a0_0, .slice A0_1 l0_1.length c0_1] 24 ?_; intro gb388 hg w19 hbox hb; have BK388 := Aside0.mk (hbox); have GW388 := Aside0.mk (zs_ hg (ne_ HB.out)); have GE388 := Aside0.mk (zs_ hg (ne_ HB.out)); replace HB := kB_ HB hb; clear hb hbox hg; obtain ⟨hcz20_0, hcz20_1, hfz20_0, hfz20_1⟩ := cz2_ BK388.out) | ((with_reducible refine gate_callee (f := 19) rfl ?_); refine gl_ (some 15) Try.func19 #[.agg #[.int .i64 a0_0, .slice A0_1 l0_1.length c0_1], .int .i64 1048576] ?_; (with_reducible refine (laws_szNet.calls a0_0 _ _ l0_1 1048576 t389 _ ?side1 ?side2 A3.out).mono ?_); (case side1 => exact nc_ (Kd.C_below HR0_1.out HB.out)); (case side2 => exact HC0_1.out); rintro e w21 ⟨rfl, hb⟩; refine ⟨_, rfl, ?_⟩; replace BK388 := kb_ BK388 hb; replace HB := kB_ HB hb; (try clear hb); (try clear hb2); (try clear hk); (try clear hi); obtain ⟨hcz22_0, hcz22_1, hfz22_0, hfz22_1⟩ := cz2_ BK388.out) | ((with_reducible refine gate_callee (f := 21) rfl ?_); refine gl_ (some 19) Try.func21 #[.agg #[.int .i64 a0_0, .slice A0_1 l0_1.length c0_1]] ?_; (with_reducible refine (laws_toNet.calls k a0_0 _ _ l0_1 t390 t391 _ ?side1 ?side2 A8.out).mono ?_); (case side1 => exact nc_ (Kd.C_below HR0_1.out HB.out)); (case side2 => exact HC0_1.out); rintro e w23 ⟨v392, rfl, ho0, hb⟩; refine ⟨_, rfl, ?_⟩; have HO393 := Aside0.mk (Kd.R_lower ho0 (below_size (ne_ HB.out))); replace BK388 := kb_ BK388 hb; replace HB := kB_ HB hb; (try clear hb); (try clear hb2); (try clear hk); (try clear hi); (try clear ho0); obtain ⟨Ao24, co24, eo24⟩ := Kd.R_slice HO393.out; subst eo24) | ((with_reducible refine gate_callee (f := 31) rfl ?_); refine gl_ (some 21) Try.func31 #[.agg #[.int .i64 t390, .slice Ao24 t391.length co24], .int .i64 a1] ?_; (with_reducible refine (spec_NetOut.calls k t390 _ _ t391 a1 t394 _ ?side1 ?side2 A9.out).mono ?_); (case side1 => exact nc_ (rR6 HO393.out).2.2); (case side2 => exact (rR6 HO393.out).2.1); rintro e w25 ⟨v395, rfl, ho0, hb⟩; refine ⟨_, rfl, ?_⟩; have HO396 := Aside0.mk (Kd.R_lower ho0 (below_size (ne_ HB.out))); replace HO393 := kR_ HO393 hb; replace BK388 := kb_ BK388 hb; replace HB := kB_ HB hb; (try clear hb); (try clear hb2); (try clear hk); (try clear hi); (try clear ho0); obtain ⟨hcz26_0, hcz26_1, hfz26_0, hfz26_1⟩ := cz2_ BK388.out) | ((with_reducible refine gate_callee (f := 21) rfl ?_); refine gl_ (some 23) Try.func21 #[.agg #[.int .i64 a0_0, .slice A0_1 l0_1.length c0_1]] ?_; (with_reducible refine (laws_toNet.calls k a0_0 _ _ l0_1 t397 t398 _ ?side1 ?side2 A10.out).mono ?_); (case side1 => exact nc_ (Kd.C_below HR0_1.out HB.out)); (case side2 => exact HC0_1.out); rintro e w27 ⟨v399, rfl, ho0, hb⟩; refine ⟨_, rfl, ?_⟩; have HO400 := Aside0.mk (Kd.R_lower (Kd.R_new' ho0 (Kd.R_lt (nr_ HO393.out))) (below_size (ne_ HB.out))); replace HO393 := Aside0.mk (Kd.R_elder' (nr_ HO393.out) (Kd.R_base ho0) hb); replace HO396 := kR_ HO396 hb; replace BK388 := kb_ BK388 hb; replace HB := kB_ HB hb; (try clear hb); (try clear hb2); (try clear hk); (try clear hi); (try clear ho0)) | ((with_reducible refine gate_dst (N := 7) rfl ?_); refine bx_ 7 #[.int .i64 0, .slice none 0 0] 29 ?_; intro gb401 hg w28 hbox hb; have BK401 := Aside0.mk (hbox); have GW401 := Aside0.mk (zs_ hg (ne_ HB.out)); have GE401 := Aside0.mk (zs_ hg (ne_ HB.out)); have NB388_401 := Aside0.mk (nl_ BK388.out hg); have NB401_388 := Aside0.mk (nm_ BK388.out hg); replace HO393 := kR_ HO393 hb; replace HO396 := kR_ HO396 hb; replace HO400 := kR_ HO400 hb; replace BK388 := kb_ BK388 hb; replace HB := kB_ HB hb; clear hb hbox hg; have hnb29 := NB401_388.out; have hnc29 := NB388_401.out; obtain ⟨hcz30_0, hcz30_1, hfz30_0, hfz30_1⟩ := cz2_ BK401.out; obtain ⟨Ao31, co31, eo31⟩ := Kd.R_slice HO400.out; subst eo31) | ((with_reducible refine gate_callee (f := 29) rfl ?_); refine gl_ (some 26) Try.func29 #[.agg #[.int .i64 t397, .slice Ao31 t398.length co31], .int .i64 a1] ?_; (with_reducible refine (impl_NetOut.calls k t397 _ _ t398 a1 t402 _ ?side1 ?side2 A11.out).mono ?_); (case side1 => refine (rR6 (e := 37) (base := w.heap.size) (ok := fun k_ => (True ∧ some k_ ≠ (.slice Ao24 t391.length co24 : Value).ownBlock)) (n := t398.length) (c := co31) ?_).2.2; exact (by (with_reducible repeat (first | apply rA6 | apply rN6 | apply rD6)); exact (Kd.R_mono (rf2_ (Kd.R_types HO400.out BK401.out (by decide))) (fun _ h_ => h_.1)))); (case side2 => exact (rR6 HO400.out).2.1); rintro e w32 ⟨v403, rfl, ho0, hb⟩; refine ⟨_, rfl, ?_⟩; have HO404 := Aside0.mk (Kd.R_lower (Kd.R_new' ho0 (Kd.R_lt (by (with_reducible repeat (first | apply rA6 | apply rN6 | apply rD6)); exact (Kd.R_mono (rf2_ (Kd.R_types HO396.out BK401.out (by decide))) (fun _ h_ => h_.1))))) (below_size (ne_ HB.out))); replace HO393 := Aside0.mk (Kd.R_below (by (with_reducible repeat (first | apply rA6 | apply rN6 | apply rD6)); exact (Kd.R_mono (rf2_ (Kd.R_types HO393.out BK401.out (by decide))) (fun _ h_ => h_.1))) hb); replace HO396 := Aside0.mk (Kd.R_elder' (by (with_reducible repeat (first | apply rA6 | apply rN6 | apply rD6)); exact (Kd.R_mono (rf2_ (Kd.R_types HO396.out BK401.out (by decide))) (fun _ h_ => h_.1))) (Kd.R_base ho0) hb); replace HO400 := Aside0.mk (Kd.R_below (by (with_reducible repeat (first | apply rA6 | apply rN6 | apply rD6)); exact (Kd.R_mono (rf2_ (Kd.R_types HO400.out BK401.out (by decide))) (fun _ h_ => h_.1))) hb); replace BK388 := kf_ BK388 hb; replace BK401 := Aside0.mk (blk_below (g := gb401) (o := .cells #[.int .i64 t397, .slice Ao31 t398.length co31] 29 (0, 0)) (np_ BK401.out) hb); replace HB := kB_ HB hb; (try clear hb); (try clear hb2); (try clear hk); (try clear hi); (try clear ho0); obtain ⟨Ao33, co33, eo33⟩ := Kd.R_slice HO404.out; subst eo33; obtain ⟨Ao34, co34, eo34⟩ := Kd.R_slice HO396.out; subst eo34) | ((with_reducible refine gate_callee (f := 32) rfl ?_); refine gl_ (some 29) Try.func32 #[.slice Ao33 t402.length co33, .slice Ao34 t394.length co34] ?_; (with_reducible refine (laws_eqIntS.calls k _ _ t402 _ _ t394 true _ ?side1 ?side2 ?side3 ?side4 A12.out).mono ?_); (case side1 => exact nc_ (rR6 HO404.out).2.2); (case side2 => exact (rR6 HO404.out).2.1); (case side3 => exact nc_ (rR6 HO396.out).2.2); (case side4 => exact (rR6 HO396.out).2.1); rintro e w' ⟨rfl, ⟨nd, rfl⟩⟩; refine ⟨_, rfl, ?_⟩))
  (first | (rw [drewN_self w32]; generalize hq_ : World.drewN w32 _ = w32; replace HO393 : Aside0 (Kd.R k37 37 w32 w.heap.size (fun k_ => some k_ ≠ (.slice Ao31 t398.length co31 : Value).ownBlock) (.slice Ao24 t391.length co24) t391) := ⟨by rw [← hq_]; exact (by (with_reducible repeat (first | apply rA6 | apply rN6 | apply rD6)); exact Kd.R_mono HO393.out (fun _ hk => by first | exact hk.2 | trivial | simp_all))⟩; replace HO396 : Aside0 (Kd.R (Kd.int .i64) 3 w32 w.heap.size (fun k_ => some k_ ≠ (.slice Ao33 t402.length co33 : Value).ownBlock) (.slice Ao34 t394.length co34) t394) := ⟨by rw [← hq_]; exact (by (with_reducible repeat (first | apply rA6 | apply rN6 | apply rD6)); exact Kd.R_mono HO396.out (fun _ hk => by first | exact hk.2 | trivial | simp_all))⟩; replace HO400 : Aside0 (Kd.R k37 37 w32 w.heap.size (fun k_ => some k_ ≠ (.slice Ao24 t391.length co24 : Value).ownBlock) (.slice Ao31 t398.length co31) t398) := ⟨by rw [← hq_]; exact (by (with_reducible repeat (first | apply rA6 | apply rN6 | apply rD6)); exact Kd.R_mono HO400.out (fun _ hk => by first | exact hk.2 | trivial | simp_all))⟩; replace HO404 : Aside0 (Kd.R (Kd.int .i64) 3 w32 w.heap.size (fun k_ => some k_ ≠ (.slice Ao34 t394.length co34 : Value).ownBlock) (.slice Ao33 t402.length co33) t402) := ⟨by rw [← hq_]; exact (by (with_reducible repeat (first | apply rA6 | apply rN6 | apply rD6)); exact Kd.R_mono HO404.out (fun _ hk => by first | exact hk.2 | trivial | simp_all))⟩; replace BK388 : Aside0 (w32.heap[gb388]? = some (.cells #[.int .i64 a0_0, .slice A0_1 l0_1.length c0_1] 24 (0, 0))) := ⟨by rw [← hq_]; exact (nb_ BK388.out)⟩; replace BK401 : Aside0 (w32.heap[gb401]? = some (.cells #[.int .i64 t397, .slice Ao31 t398.length co31] 29 (0, 0))) := ⟨by rw [← hq_]; exact (nb_ BK401.out)⟩; replace HB : Aside0 (Below w.heap.size w w32) := ⟨by rw [← hq_]; exact (ne_ HB.out)⟩; clear hq_) | (have n0_ : Aside0 (Kd.R k37 37 w32 w.heap.size (fun k_ => some k_ ≠ (.slice Ao31 t398.length co31 : Value).ownBlock) (.slice Ao24 t391.length co24) t391) := ⟨(by (with_reducible repeat (first | apply rA6 | apply rN6 | apply rD6)); exact Kd.R_mono HO393.out (fun _ hk => by first | exact hk.2 | trivial | simp_all))⟩; have n1_ : Aside0 (Kd.R (Kd.int .i64) 3 w32 w.heap.size (fun k_ => some k_ ≠ (.slice Ao33 t402.length co33 : Value).ownBlock) (.slice Ao34 t394.length co34) t394) := ⟨(by (with_reducible repeat (first | apply rA6 | apply rN6 | apply rD6)); exact Kd.R_mono HO396.out (fun _ hk => by first | exact hk.2 | trivial | simp_all))⟩; have n2_ : Aside0 (Kd.R k37 37 w32 w.heap.size (fun k_ => some k_ ≠ (.slice Ao24 t391.length co24 : Value).ownBlock) (.slice Ao31 t398.length co31) t398) := ⟨(by (with_reducible repeat (first | apply rA6 | apply rN6 | apply rD6)); exact Kd.R_mono HO400.out (fun _ hk => by first | exact hk.2 | trivial | simp_all))⟩; have n3_ : Aside0 (Kd.R (Kd.int .i64) 3 w32 w.heap.size (fun k_ => some k_ ≠ (.slice Ao34 t394.length co34 : Value).ownBlock) (.slice Ao33 t402.length co33) t402) := ⟨(by (with_reducible repeat (first | apply rA6 | apply rN6 | apply rD6)); exact Kd.R_mono HO404.out (fun _ hk => by first | exact hk.2 | trivial | simp_all))⟩; have n4_ : Aside0 (w32.heap[gb388]? = some (.cells #[.int .i64 a0_0, .slice A0_1 l0_1.length c0_1] 24 (0, 0))) := ⟨(nb_ BK388.out)⟩; have n5_ : Aside0 (w32.heap[gb401]? = some (.cells #[.int .i64 t397, .slice Ao31 t398.length co31] 29 (0, 0))) := ⟨(nb_ BK401.out)⟩; have n6_ : Aside0 (Below w.heap.size w w32) := ⟨(ne_ HB.out)⟩; clear HO393 HO396 HO400 HO404 BK388 BK401 HB; have HO393 := n0_; have HO396 := n1_; have HO400 := n2_; have HO404 := n3_; have BK388 := n4_; have BK401 := n5_; have HB := n6_; clear n0_ n1_ n2_ n3_ n4_ n5_ n6_))
  replace HO393 := Aside0.mk (rD6 HO393.out)
  replace HO396 := Aside0.mk (rD6 HO396.out)
  replace HO400 := Aside0.mk (rD6 HO400.out)
  replace HO404 := Aside0.mk (rD6 HO404.out)
  replace BK388 := Aside0.mk (blk_drew BK388.out)
  replace BK401 := Aside0.mk (blk_drew BK401.out)
  replace HB := Aside0.mk (below_drew1 HB.out)
  refine start_ (n := 5) (S := fun w' => w'.cell? ⟨gb401, 0, none⟩ = some (.int .i64 t397) ∧ w'.cell? ⟨gb401, 1, none⟩ = some (.slice Ao31 t398.length co31) ∧ w'.cell? ⟨gb388, 0, none⟩ = some (.int .i64 a0_0) ∧ w'.cell? ⟨gb388, 1, none⟩ = some (.slice A0_1 l0_1.length c0_1)) (ds := []) #[false, false, false, false, false] (by kernel_rfl) rfl rfl ⟨ct_ BK401.out 0, ct_ BK401.out 1, ct_ BK388.out 0, ct_ BK388.out 1⟩ (fun hHeld => ?_)
  generalize w32.drew = w35 at HO393 HO396 HO400 HO404 BK388 BK401 HB hHeld ⊢
  refine take_ (i := 0) (N := some 31) (v := ?_) (a' := ?_) #[true, false, false, false, false] rfl rfl (by kernel_rfl) (fun _ _ _ h => h) (Or.inl ⟨by rfl, ?_⟩) hHeld ?_ ?_
  rotate_left
  ·rintro w' ⟨s0, s1, s2, s3⟩
   go_simp
   with_reducible rfl
  rotate_left
  ·simp only [Act.put, List.setIfInBounds_toArray, List.set_cons_zero, List.set_cons_succ, i64_w, i32_w]
   rfl
  refine take_ (i := 1) (N := some 32) (v := ?_) (a' := ?_) #[true, true, false, false, false] rfl rfl (by kernel_rfl) (fun _ _ _ h => h) (Or.inl ⟨by rfl, ?_⟩) hHeld ?_ ?_
  rotate_left
  ·rintro w' ⟨s0, s1, s2, s3⟩
   go_simp
   with_reducible rfl
  rotate_left
  ·simp only [Act.put, List.setIfInBounds_toArray, List.set_cons_zero, List.set_cons_succ, i64_w, i32_w]
   rfl
  refine one_ (i := 2) (N := some 33) #[true, true, true, false, false] rfl rfl (by kernel_rfl) (by decide) (fun K hK => ?_)
  refine go_ Try.func21 #[.agg #[.int .i64 a0_0, .slice A0_1 l0_1.length c0_1]] ?_
  with_reducible refine (laws_toNet.calls k a0_0 _ _ l0_1 t406 t407 _ ?side1 ?side2 A14.out).mono ?_
  (case side1 => exact nc_ (Kd.C_below HR0_1.out HB.out))
  (case side2 => exact HC0_1.out)
  rintro e w36 ⟨v408, rfl, ho0, hb⟩
  refine ⟨_, rfl, ?_⟩
  replace HO396 := kR_ HO396 hb
  replace HO404 := kR_ HO404 hb
  have HO409 := Aside0.mk (Kd.R_lower (Kd.R_new' (Kd.R_new' ho0 (Kd.R_lt (nr_ HO393.out))) (Kd.R_lt (nr_ HO400.out))) (below_size (ne_ HB.out)))
  replace HO393 := Aside0.mk (Kd.R_elder' (nr_ HO393.out) (Kd.R_base ho0) hb)
  replace HO400 := Aside0.mk (Kd.R_elder' (nr_ HO400.out) (Kd.R_base ho0) hb)
  replace BK388 := kb_ BK388 hb
  replace BK401 := kb_ BK401 hb
  replace HB := kB_ HB hb
  (try clear hb)
  (try clear hb2)
  (try clear hk)
  (try clear hi)
  (try clear ho0)
  obtain ⟨Ao37, co37, eo37⟩ := Kd.R_slice HO409.out
  (first | subst eo37 | (injection eo37 with f1_ f2_ f3_; have f4_ := f1_.symm; have f5_ := f3_.symm; clear f1_ f2_ f3_; subst f4_; subst f5_))
  refine hK.out _ _ ⟨ct_ BK401.out 0, ct_ BK401.out 1, ct_ BK388.out 0, ct_ BK388.out 1⟩ (fun hHeld => ?_)
  clear hK K
  refine nm1_ (some 33) ?_
  refine one_ (i := 3) (N := some 34) #[true, true, true, true, false] rfl rfl (by kernel_rfl) (by decide) (fun K hK => ?_)
  refine go_ Try.func23 #[.agg #[.int .i64 t397, .slice Ao31 t398.length co31], .agg #[.int .i64 t406, .slice Ao37 t407.length co37]] ?_
  with_reducible refine (laws_eqNet.calls k t397 _ _ t398 t406 _ _ t407 true _ ?side1 ?side2 ?side3 ?side4 A15.out).mono ?_
  (case side1 => exact nc_ (rR6 HO400.out).2.2)
  (case side2 => exact (rR6 HO400.out).2.1)
  (case side3 => exact nc_ (rR6 HO409.out).2.2)
  (case side4 => exact (rR6 HO409.out).2.1)
  rintro e w38 ⟨rfl, hb⟩
  refine ⟨_, rfl, ?_⟩
  replace HO393 := kR_ HO393 hb
  replace HO396 := kR_ HO396 hb
  replace HO400 := kR_ HO400 hb
  replace HO404 := kR_ HO404 hb
  replace HO409 := kR_ HO409 hb
  replace BK388 := kb_ BK388 hb
  replace BK401 := kb_ BK401 hb
  replace HB := kB_ HB hb
  (try clear hb)
  (try clear hb2)
  (try clear hk)
  (try clear hi)
  refine hK.out _ _ ⟨ct_ BK401.out 0, ct_ BK401.out 1, ct_ BK388.out 0, ct_ BK388.out 1⟩ (fun hHeld => ?_)
  clear hK K
  refine nm1_ (some 34) ?_
  refine pure_ (i := 4) (N := some 35) (v := ?_) (a' := ?_) #[true, true, true, true, true] rfl rfl (by kernel_rfl) (fun _ _ _ h => h) (Or.inl ⟨by rfl, ?_⟩) ?_ ?_
  rotate_left
  ·intro w'
   go_simp
   with_reducible rfl
  rotate_left
  ·simp only [Act.put, List.setIfInBounds_toArray, List.set_cons_zero, List.set_cons_succ, i64_w, i32_w]
   rfl
  refine done_ (by kernel_rfl) ?_
  obtain ⟨hcz39_0, hcz39_1, hfz39_0, hfz39_1⟩ := cz2_ BK401.out
  go_upto_region 14 with (first | ((with_reducible refine gate_callee (f := 33) rfl ?_); refine gl_ (some 38) Try.func33 #[.agg #[.int .i64 t397, .slice Ao31 t398.length co31], .int .i64 1] ?_; (with_reducible refine (laws_markNet.calls k t397 (fun k_ => some k_ = (.slice Ao31 t398.length co31 : Value).ownBlock) (.slice Ao31 t398.length co31) t398 1 t411 t412 w _ ?side1 ?side2 A17.out).mono ?_); (case side1 => exact (ne_ HB.out)); (case side2 => exact Kd.R_tight rfl HO400.out); rintro e w40 ⟨rfl, hy0, hb, hkp⟩; refine ⟨_, rfl, ?_⟩; replace BK388 := Aside0.mk (blk_kept (g := gb388) (o := .cells #[.int .i64 a0_0, .slice A0_1 l0_1.length c0_1] 24 (0, 0)) (nb_ BK388.out) hkp (fun hs_ => (fun e_ => (Kd.R_ne HO400.out BK388.out (by decide)) e_) hs_)); replace HO393 := Aside0.mk (Kd.R_mono (ok' := fun k_ => some k_ ≠ (.slice Ao31 t398.length co31 : Value).ownBlock ∧ some k_ ≠ (.slice Ao37 t407.length co37 : Value).ownBlock) (Kd.R_keptB (HO393.out) hkp (fun k_ hk_ hs_ => (hk_.1) hs_)) (fun k_ hk_ => ⟨hk_.1.1, hk_.1.2⟩)); replace HO396 := Aside0.mk (Kd.R_mono (ok' := fun k_ => some k_ ≠ (.slice Ao33 t402.length co33 : Value).ownBlock) (Kd.R_keptB ((Kd.R_apart' HO396.out (Kd.R_typed HO400.out) (by decide))) hkp (fun k_ hk_ hs_ => (hk_.2) hs_)) (fun k_ hk_ => hk_.1.1)); replace BK401 := Aside0.mk (blk_kept (g := gb401) (o := .cells #[.int .i64 t397, .slice Ao31 t398.length co31] 29 (0, 0)) (nb_ BK401.out) hkp (fun hs_ => (fun e_ => (Kd.R_ne HO400.out BK401.out (by decide)) e_) hs_)); replace HO404 := Aside0.mk (Kd.R_mono (ok' := fun k_ => some k_ ≠ (.slice Ao34 t394.length co34 : Value).ownBlock) (Kd.R_keptB ((Kd.R_apart' HO404.out (Kd.R_typed HO400.out) (by decide))) hkp (fun k_ hk_ hs_ => (hk_.2) hs_)) (fun k_ hk_ => hk_.1.1)); replace HO400 := Aside0.mk (Kd.R_reok rfl hy0 (fun k_ e_ => HO400.out.1 k_ e_)); replace HO409 := Aside0.mk (Kd.R_mono (ok' := fun k_ => some k_ ≠ (.slice Ao24 t391.length co24 : Value).ownBlock ∧ some k_ ≠ (.slice Ao31 t398.length co31 : Value).ownBlock) (Kd.R_keptB (HO409.out) hkp (fun k_ hk_ hs_ => (hk_.2) hs_)) (fun k_ hk_ => ⟨hk_.1.1.2, hk_.1.2⟩)); replace HB := Aside0.mk (hb); (try clear hb); (try clear hkp); (try clear hy0)))
  (try simp only [Act.put, List.setIfInBounds_toArray, List.set_cons_zero, List.set_cons_succ])
  go_cut [46] (fun v46 wc => ∃ (kq : Nat) (x46_17 : Bool), v46 = .bool x46_17 ∧ Aside0 (laws_FnExactNetOut.j0 kq a1 t394 t402 x46_17 a0_0 l0_1 = some r) ∧ Aside0 (kq ≤ k) ∧ Aside0 (Kd.R (Kd.int .i64) 3 wc w.heap.size (fun k_ => some k_ ≠ ((.slice Ao33 t402.length co33) : Value).ownBlock) (.slice Ao34 t394.length co34) t394) ∧ Aside0 (Kd.R (Kd.int .i64) 3 wc w.heap.size (fun k_ => some k_ ≠ ((.slice Ao34 t394.length co34) : Value).ownBlock) (.slice Ao33 t402.length co33) t402) ∧ Aside0 (Kd.R k37 37 wc w.heap.size (fun _ => True) (.slice Ao31 t398.length co31) t412) ∧ Aside0 (wc.heap[gb388]? = some (.cells #[.int .i64 a0_0, (.slice A0_1 l0_1.length c0_1)] 24 (0, 0))) ∧ Aside0 (wc.heap[gb401]? = some (.cells #[.int .i64 t397, (.slice Ao31 t398.length co31)] 29 (0, 0))) ∧ Aside0 (Below w.heap.size w wc))
  case first =>
   have H := HC18.out
   clear HC18
   by_cases c41 : t411 < 0
   ·rw [if_pos c41] at H
    have c41b0 : decide (t411 < 0) = true := decide_eq_true c41
    clear c41
    (first | rw [c41b0] | (simp only [i64_w, i32_w]; rw [c41b0]) | skip)
    have H' := Aside0.mk H
    clear H
    go_wp2
    go_meet
    case rel => exact ⟨_, (true), ns_, H', ⟨by first | omega | exact Nat.le_refl _⟩, ⟨nr_ HO396.out⟩, ⟨nr_ HO404.out⟩, ⟨by (with_reducible repeat (first | apply rA6 | apply rN6 | apply rD6)); exact Kd.R_mono HO400.out (fun _ hk => trivial)⟩, ⟨nb_ BK388.out⟩, ⟨nb_ BK401.out⟩, ⟨ne_ HB.out⟩⟩
   rw [if_neg c41] at H
   have c41b0 : decide (t411 < 0) = false := decide_eq_false c41
   clear c41
   (first | rw [c41b0] | (simp only [i64_w, i32_w]; rw [c41b0]) | skip)
   replace H := Option.bind_eq_some_iff.mp H
   obtain ⟨t413, A420, H⟩ := H
   replace H : (laws_FnExactNetOut.j0 k a1 t394 t402 (!t413) a0_0 l0_1) = some r := H
   have A42 := Aside0.mk A420
   clear A420
   have H' := Aside0.mk H
   clear H
   go_wp2_with (first | (go_at_call 32; (with_reducible refine (laws_eqIntS.calls k _ _ t402 _ _ t394 t413 _ ?side1 ?side2 ?side3 ?side4 A42.out).mono ?_); (case side1 => exact nc_ (rR6 HO404.out).2.2); (case side2 => exact (rR6 HO404.out).2.1); (case side3 => exact nc_ (rR6 HO396.out).2.2); (case side4 => exact (rR6 HO396.out).2.1); rintro e w' ⟨rfl, ⟨nd, rfl⟩⟩))
   go_meet
   case rel => exact ⟨_, (!t413), ns_, H', ⟨by first | omega | exact Nat.le_refl _⟩, ⟨nr_ HO396.out⟩, ⟨nr_ HO404.out⟩, ⟨by (with_reducible repeat (first | apply rA6 | apply rN6 | apply rD6)); exact Kd.R_mono HO400.out (fun _ hk => trivial)⟩, ⟨nb_ BK388.out⟩, ⟨nb_ BK401.out⟩, ⟨ne_ HB.out⟩⟩
  case rest =>
   clear HC18
   try clear c4
   try clear c4b0
   try clear c13
   try clear c16
   try clear hcz20_0
   try clear hcz20_1
   try clear hcz22_0
   try clear hcz22_1
   try clear hcz26_0
   try clear hcz26_1
   try clear hcz30_0
   try clear hcz30_1
   try clear hcz39_0
   try clear hcz39_1
   try clear hfz20_0
   try clear hfz20_1
   try clear hfz22_0
   try clear hfz22_1
   try clear hfz26_0
   try clear hfz26_1
   try clear hfz30_0
   try clear hfz30_1
   try clear hfz39_0
   try clear hfz39_1
   obtain ⟨kq, x46_17, rfl, HA, HJ17, HO_6, HO_8, HO_402001, BK388, BK401, HB⟩ := hcut
   have hl402001_17 := (rR6 HO_402001.out).1
   rw [hl402001_17] at HO_402001
   (try simp only [hl402001_17])
   (try simp only [hl402001_17] at BK388)
   (try simp only [hl402001_17] at BK401)
   (try simp only [hl402001_17] at HO_6)
   (try simp only [hl402001_17] at HO_8)
   cases kq with
   | zero => exact absurd HA.out (by simp [laws_FnExactNetOut.j0])
   | succ kj17 =>
    have H := HA.out
    clear HA
    simp only [laws_FnExactNetOut.j0] at H
    by_cases c43 : x46_17 = true
    ·subst c43
     have H1 : (some false) = some r := by rw [if_pos rfl] at H; exact H
     clear H
     have H := H1
     clear H1
     obtain rfl := Option.some.inj H
     go_wp2
     go_ret
     exact ⟨nw_, ne_ HB.out⟩
    replace c43 := Bool.eq_false_iff.mpr c43
    subst c43
    have H1 : ((laws_markIntS.f kj17 t402 1).bind fun bt414 => ((laws_heldIntS.f kj17 bt414.2 1).bind fun t416 => (if t416 < 0 then (some false) else (if t416 = bt414.1 then ((laws_toNet.f kj17 a0_0 l0_1).bind fun bt417 => ((impl_NetOut.f kj17 bt417.1 bt417.2 a1).bind fun t421 => ((laws_eqIntS.f kj17 t421 t394).bind fun t424 => (if t424 = true then ((laws_heldIntS.f kj17 bt414.2 1).bind fun t425 => (if t425 < 0 then (some false) else (if t425 = bt414.1 then (some true) else (some false)))) else (some false))))) else (some false))))) = some r := by rw [if_neg (show ¬ (false = true) by decide)] at H; exact H
    clear H
    have H := H1
    clear H1
    replace H := Option.bind_eq_some_iff.mp H
    obtain ⟨⟨t414, t415⟩, A440, H⟩ := H
    try dsimp only at H
    have A44 := Aside0.mk A440
    clear A440
    replace H := Option.bind_eq_some_iff.mp H
    obtain ⟨t416, A450, H⟩ := H
    try dsimp only at H
    have A45 := Aside0.mk A450
    clear A450
    by_cases c46 : t416 < 0
    ·rw [if_pos c46] at H
     have c46b0 : decide (t416 < 0) = true := decide_eq_true c46
     clear c46
     obtain rfl := Option.some.inj H
     go_wp2_with (first | ((with_reducible refine gate_callee (f := 34) rfl ?_); refine gl_ (some 49) Try.func34 #[.slice Ao33 t402.length co33, .int .i64 1] ?_; (with_reducible refine (laws_markIntS.calls kj17 (fun k_ => some k_ = (.slice Ao33 t402.length co33 : Value).ownBlock) (.slice Ao33 t402.length co33) t402 1 t414 t415 w _ ?side1 ?side2 A44.out).mono ?_); (case side1 => exact (ne_ HB.out)); (case side2 => exact Kd.R_tight rfl HO_8.out); rintro e w47 ⟨rfl, hy0, hb, hkp⟩; refine ⟨_, rfl, ?_⟩; replace HO_6 := Aside0.mk (Kd.R_mono (ok' := fun k_ => some k_ ≠ (.slice Ao33 t402.length co33 : Value).ownBlock) (Kd.R_keptB (HO_6.out) hkp (fun k_ hk_ hs_ => (hk_) hs_)) (fun k_ hk_ => hk_.1)); replace HO_402001 := Aside0.mk (Kd.R_mono (ok' := fun k_ => True) (Kd.R_keptB ((Kd.R_apart' HO_402001.out (Kd.R_typed HO_8.out) (by decide))) hkp (fun k_ hk_ hs_ => (hk_.2) hs_)) (fun k_ hk_ => trivial)); replace BK388 := Aside0.mk (blk_kept (g := gb388) (o := .cells #[.int .i64 a0_0, .slice A0_1 l0_1.length c0_1] 24 (0, 0)) (nb_ BK388.out) hkp (fun hs_ => (fun e_ => (Kd.R_ne HO_8.out BK388.out (by decide)) e_) hs_)); replace BK401 := Aside0.mk (blk_kept (g := gb401) (o := .cells #[.int .i64 t397, .slice Ao31 t412.length co31] 29 (0, 0)) (nb_ BK401.out) hkp (fun hs_ => (fun e_ => (Kd.R_ne HO_8.out BK401.out (by decide)) e_) hs_)); replace HO_8 := Aside0.mk (Kd.R_reok rfl hy0 (fun k_ e_ => HO_8.out.1 k_ e_)); replace HB := Aside0.mk (hb); (try clear hb); (try clear hkp); (try clear hy0)) | ((with_reducible refine gate_callee (f := 35) rfl ?_); refine goesL_ (some 52) rfl rfl Try.func35 (by kernel_rfl) rfl #[.slice Ao33 t415.length co33, .int .i64 1] rfl (by (try simp only [List.map_toArray, List.map_cons, List.map_nil]); first | done | (rw [show t415.length = t402.length from (rR6 HO_8.out).1.symm] <;> rfl) | rfl | (simp only [List.length_drop, List.length_take]; rfl)) ?_; (with_reducible refine (laws_heldIntS.calls kj17 _ _ t415 1 t416 _ ?side1 ?side2 A45.out).mono ?_); (case side1 => exact nc_ (rR6 HO_8.out).2.2); (case side2 => rw [show t415.length = t402.length from (rR6 HO_8.out).1.symm]; exact (rR6 HO_8.out).2.1); rintro e w' ⟨rfl, ⟨nd, rfl⟩⟩; refine ⟨_, rfl, ?_⟩))
     go_ret
     exact ⟨nw_, ne_ HB.out⟩
    rw [if_neg c46] at H
    have c46b0 : decide (t416 < 0) = false := decide_eq_false c46
    clear c46
    by_cases c48 : t416 = t414
    rotate_left
    ·rw [if_neg c48] at H
     have c48b0 : (t416 == t414) = false := beq_eq_false_iff_ne.mpr c48
     have c48b1 : (t416 != t414) = true := bne_iff_ne.mpr c48
     obtain rfl := Option.some.inj H
     go_wp2_with (first | ((with_reducible refine gate_callee (f := 34) rfl ?_); refine gl_ (some 49) Try.func34 #[.slice Ao33 t402.length co33, .int .i64 1] ?_; (with_reducible refine (laws_markIntS.calls kj17 (fun k_ => some k_ = (.slice Ao33 t402.length co33 : Value).ownBlock) (.slice Ao33 t402.length co33) t402 1 t414 t415 w _ ?side1 ?side2 A44.out).mono ?_); (case side1 => exact (ne_ HB.out)); (case side2 => exact Kd.R_tight rfl HO_8.out); rintro e w84 ⟨rfl, hy0, hb, hkp⟩; refine ⟨_, rfl, ?_⟩; replace HO_6 := Aside0.mk (Kd.R_mono (ok' := fun k_ => some k_ ≠ (.slice Ao33 t402.length co33 : Value).ownBlock) (Kd.R_keptB (HO_6.out) hkp (fun k_ hk_ hs_ => (hk_) hs_)) (fun k_ hk_ => hk_.1)); replace HO_402001 := Aside0.mk (Kd.R_mono (ok' := fun k_ => True) (Kd.R_keptB ((Kd.R_apart' HO_402001.out (Kd.R_typed HO_8.out) (by decide))) hkp (fun k_ hk_ hs_ => (hk_.2) hs_)) (fun k_ hk_ => trivial)); replace BK388 := Aside0.mk (blk_kept (g := gb388) (o := .cells #[.int .i64 a0_0, .slice A0_1 l0_1.length c0_1] 24 (0, 0)) (nb_ BK388.out) hkp (fun hs_ => (fun e_ => (Kd.R_ne HO_8.out BK388.out (by decide)) e_) hs_)); replace BK401 := Aside0.mk (blk_kept (g := gb401) (o := .cells #[.int .i64 t397, .slice Ao31 t412.length co31] 29 (0, 0)) (nb_ BK401.out) hkp (fun hs_ => (fun e_ => (Kd.R_ne HO_8.out BK401.out (by decide)) e_) hs_)); replace HO_8 := Aside0.mk (Kd.R_reok rfl hy0 (fun k_ e_ => HO_8.out.1 k_ e_)); replace HB := Aside0.mk (hb); (try clear hb); (try clear hkp); (try clear hy0)) | ((with_reducible refine gate_callee (f := 35) rfl ?_); refine goesL_ (some 52) rfl rfl Try.func35 (by kernel_rfl) rfl #[.slice Ao33 t415.length co33, .int .i64 1] rfl (by (try simp only [List.map_toArray, List.map_cons, List.map_nil]); first | done | (rw [show t415.length = t402.length from (rR6 HO_8.out).1.symm] <;> rfl) | rfl | (simp only [List.length_drop, List.length_take]; rfl)) ?_; (with_reducible refine (laws_heldIntS.calls kj17 _ _ t415 1 t416 _ ?side1 ?side2 A45.out).mono ?_); (case side1 => exact nc_ (rR6 HO_8.out).2.2); (case side2 => rw [show t415.length = t402.length from (rR6 HO_8.out).1.symm]; exact (rR6 HO_8.out).2.1); rintro e w' ⟨rfl, ⟨nd, rfl⟩⟩; refine ⟨_, rfl, ?_⟩))
     go_ret
     exact ⟨nw_, ne_ HB.out⟩
    rw [if_pos c48] at H
    have c48b0 : (t416 == t414) = true := beq_iff_eq.mpr c48
    have c48b1 : (t416 != t414) = false := bne_eq_false_iff_eq.mpr c48
    clear c48
    replace H := Option.bind_eq_some_iff.mp H
    obtain ⟨⟨t417, t418⟩, A490, H⟩ := H
    try dsimp only at H
    have A49 := Aside0.mk A490
    clear A490
    replace H := Option.bind_eq_some_iff.mp H
    obtain ⟨t421, A500, H⟩ := H
    try dsimp only at H
    have A50 := Aside0.mk A500
    clear A500
    replace H := Option.bind_eq_some_iff.mp H
    obtain ⟨t424, A510, H⟩ := H
    try dsimp only at H
    have A51 := Aside0.mk A510
    clear A510
    by_cases c52 : t424 = true
    rotate_left
    ·replace c52 := Bool.eq_false_iff.mpr c52
     subst c52
     have H1 : (some false) = some r := by rw [if_neg (show ¬ (false = true) by decide)] at H; exact H
     clear H
     have H := H1
     clear H1
     obtain rfl := Option.some.inj H
     go_wp2_with (first | ((with_reducible refine gate_callee (f := 34) rfl ?_); refine gl_ (some 49) Try.func34 #[.slice Ao33 t402.length co33, .int .i64 1] ?_; (with_reducible refine (laws_markIntS.calls kj17 (fun k_ => some k_ = (.slice Ao33 t402.length co33 : Value).ownBlock) (.slice Ao33 t402.length co33) t402 1 t414 t415 w _ ?side1 ?side2 A44.out).mono ?_); (case side1 => exact (ne_ HB.out)); (case side2 => exact Kd.R_tight rfl HO_8.out); rintro e w77 ⟨rfl, hy0, hb, hkp⟩; refine ⟨_, rfl, ?_⟩; replace HO_6 := Aside0.mk (Kd.R_mono (ok' := fun k_ => some k_ ≠ (.slice Ao33 t402.length co33 : Value).ownBlock) (Kd.R_keptB (HO_6.out) hkp (fun k_ hk_ hs_ => (hk_) hs_)) (fun k_ hk_ => hk_.1)); replace HO_402001 := Aside0.mk (Kd.R_mono (ok' := fun k_ => True) (Kd.R_keptB ((Kd.R_apart' HO_402001.out (Kd.R_typed HO_8.out) (by decide))) hkp (fun k_ hk_ hs_ => (hk_.2) hs_)) (fun k_ hk_ => trivial)); replace BK388 := Aside0.mk (blk_kept (g := gb388) (o := .cells #[.int .i64 a0_0, .slice A0_1 l0_1.length c0_1] 24 (0, 0)) (nb_ BK388.out) hkp (fun hs_ => (fun e_ => (Kd.R_ne HO_8.out BK388.out (by decide)) e_) hs_)); replace BK401 := Aside0.mk (blk_kept (g := gb401) (o := .cells #[.int .i64 t397, .slice Ao31 t412.length co31] 29 (0, 0)) (nb_ BK401.out) hkp (fun hs_ => (fun e_ => (Kd.R_ne HO_8.out BK401.out (by decide)) e_) hs_)); replace HO_8 := Aside0.mk (Kd.R_reok rfl hy0 (fun k_ e_ => HO_8.out.1 k_ e_)); replace HB := Aside0.mk (hb); (try clear hb); (try clear hkp); (try clear hy0)) | ((with_reducible refine gate_callee (f := 35) rfl ?_); refine goesL_ (some 52) rfl rfl Try.func35 (by kernel_rfl) rfl #[.slice Ao33 t415.length co33, .int .i64 1] rfl (by (try simp only [List.map_toArray, List.map_cons, List.map_nil]); first | done | (rw [show t415.length = t402.length from (rR6 HO_8.out).1.symm] <;> rfl) | rfl | (simp only [List.length_drop, List.length_take]; rfl)) ?_; (with_reducible refine (laws_heldIntS.calls kj17 _ _ t415 1 t416 _ ?side1 ?side2 A45.out).mono ?_); (case side1 => exact nc_ (rR6 HO_8.out).2.2); (case side2 => rw [show t415.length = t402.length from (rR6 HO_8.out).1.symm]; exact (rR6 HO_8.out).2.1); rintro e w' ⟨rfl, ⟨nd, rfl⟩⟩; refine ⟨_, rfl, ?_⟩; have hnb78 := NB388_401.out; have hnc78 := NB401_388.out; obtain ⟨hcz79_0, hcz79_1, hfz79_0, hfz79_1⟩ := cz2_ BK388.out) | ((with_reducible refine gate_callee (f := 21) rfl ?_); refine gl_ (some 59) Try.func21 #[.agg #[.int .i64 a0_0, .slice A0_1 l0_1.length c0_1]] ?_; (with_reducible refine (laws_toNet.calls kj17 a0_0 _ _ l0_1 t417 t418 _ ?side1 ?side2 A49.out).mono ?_); (case side1 => exact nc_ (Kd.C_below HR0_1.out (ne_ HB.out))); (case side2 => exact HC0_1.out); rintro e w80 ⟨v419, rfl, ho0, hb⟩; refine ⟨_, rfl, ?_⟩; have HO420 := Aside0.mk (Kd.R_lower (Kd.R_new' ho0 (Kd.R_lt (nr_ HO_402001.out))) (below_size (ne_ HB.out))); replace HO_6 := kR_ HO_6 hb; replace HO_8 := kR_ HO_8 hb; replace HO_402001 := Aside0.mk (Kd.R_elder' (nr_ HO_402001.out) (Kd.R_base ho0) hb); replace BK388 := kb_ BK388 hb; replace BK401 := kb_ BK401 hb; replace HB := kB_ HB hb; (try clear hb); (try clear hb2); (try clear hk); (try clear hi); (try clear ho0); obtain ⟨Ao81, co81, eo81⟩ := Kd.R_slice HO420.out; subst eo81) | ((with_reducible refine gate_callee (f := 29) rfl ?_); refine gl_ (some 61) Try.func29 #[.agg #[.int .i64 t417, .slice Ao81 t418.length co81], .int .i64 a1] ?_; (with_reducible refine (impl_NetOut.calls kj17 t417 _ _ t418 a1 t421 _ ?side1 ?side2 A50.out).mono ?_); (case side1 => exact nc_ (rR6 HO420.out).2.2); (case side2 => exact (rR6 HO420.out).2.1); rintro e w82 ⟨v422, rfl, ho0, hb⟩; refine ⟨_, rfl, ?_⟩; have HO423 := Aside0.mk (Kd.R_lower (Kd.R_new' (Kd.R_new' ho0 (Kd.R_lt (nr_ HO_6.out))) (Kd.R_lt (nr_ HO_8.out))) (below_size (ne_ HB.out))); replace HO_6 := Aside0.mk (Kd.R_elder' (nr_ HO_6.out) (Kd.R_base ho0) hb); replace HO_8 := Aside0.mk (Kd.R_elder' (nr_ HO_8.out) (Kd.R_base ho0) hb); replace HO_402001 := kR_ HO_402001 hb; replace HO420 := kR_ HO420 hb; replace BK388 := kb_ BK388 hb; replace BK401 := kb_ BK401 hb; replace HB := kB_ HB hb; (try clear hb); (try clear hb2); (try clear hk); (try clear hi); (try clear ho0); obtain ⟨Ao83, co83, eo83⟩ := Kd.R_slice HO423.out; subst eo83) | ((with_reducible refine gate_callee (f := 32) rfl ?_); refine gl_ (some 64) Try.func32 #[.slice Ao83 t421.length co83, .slice Ao34 t394.length co34] ?_; (with_reducible refine (laws_eqIntS.calls kj17 _ _ t421 _ _ t394 false _ ?side1 ?side2 ?side3 ?side4 A51.out).mono ?_); (case side1 => exact nc_ (rR6 HO423.out).2.2); (case side2 => exact (rR6 HO423.out).2.1); (case side3 => exact nc_ (rR6 HO_6.out).2.2); (case side4 => exact (rR6 HO_6.out).2.1); rintro e w' ⟨rfl, ⟨nd, rfl⟩⟩; refine ⟨_, rfl, ?_⟩))
     go_ret
     exact ⟨nw_, ne_ HB.out⟩
    subst c52
    rw [if_pos rfl] at H
    replace H := Option.bind_eq_some_iff.mp H
    obtain ⟨t425, A530, H⟩ := H
    replace H : (if t425 < 0 then (some false) else (if t425 = t414 then (some true) else (some false))) = some r := H
    have A53 := Aside0.mk A530
    clear A530
    by_cases c54 : t425 < 0
    ·rw [if_pos c54] at H
     have c54b0 : decide (t425 < 0) = true := decide_eq_true c54
     clear c54
     obtain rfl := Option.some.inj H
     go_wp2_with (first | ((with_reducible refine gate_callee (f := 34) rfl ?_); refine gl_ (some 49) Try.func34 #[.slice Ao33 t402.length co33, .int .i64 1] ?_; (with_reducible refine (laws_markIntS.calls kj17 (fun k_ => some k_ = (.slice Ao33 t402.length co33 : Value).ownBlock) (.slice Ao33 t402.length co33) t402 1 t414 t415 w _ ?side1 ?side2 A44.out).mono ?_); (case side1 => exact (ne_ HB.out)); (case side2 => exact Kd.R_tight rfl HO_8.out); rintro e w55 ⟨rfl, hy0, hb, hkp⟩; refine ⟨_, rfl, ?_⟩; replace HO_6 := Aside0.mk (Kd.R_mono (ok' := fun k_ => some k_ ≠ (.slice Ao33 t402.length co33 : Value).ownBlock) (Kd.R_keptB (HO_6.out) hkp (fun k_ hk_ hs_ => (hk_) hs_)) (fun k_ hk_ => hk_.1)); replace HO_402001 := Aside0.mk (Kd.R_mono (ok' := fun k_ => True) (Kd.R_keptB ((Kd.R_apart' HO_402001.out (Kd.R_typed HO_8.out) (by decide))) hkp (fun k_ hk_ hs_ => (hk_.2) hs_)) (fun k_ hk_ => trivial)); replace BK388 := Aside0.mk (blk_kept (g := gb388) (o := .cells #[.int .i64 a0_0, .slice A0_1 l0_1.length c0_1] 24 (0, 0)) (nb_ BK388.out) hkp (fun hs_ => (fun e_ => (Kd.R_ne HO_8.out BK388.out (by decide)) e_) hs_)); replace BK401 := Aside0.mk (blk_kept (g := gb401) (o := .cells #[.int .i64 t397, .slice Ao31 t412.length co31] 29 (0, 0)) (nb_ BK401.out) hkp (fun hs_ => (fun e_ => (Kd.R_ne HO_8.out BK401.out (by decide)) e_) hs_)); replace HO_8 := Aside0.mk (Kd.R_reok rfl hy0 (fun k_ e_ => HO_8.out.1 k_ e_)); replace HB := Aside0.mk (hb); (try clear hb); (try clear hkp); (try clear hy0)) | ((with_reducible refine gate_callee (f := 35) rfl ?_); refine goesL_ (some 52) rfl rfl Try.func35 (by kernel_rfl) rfl #[.slice Ao33 t415.length co33, .int .i64 1] rfl (by (try simp only [List.map_toArray, List.map_cons, List.map_nil]); first | done | (rw [show t415.length = t402.length from (rR6 HO_8.out).1.symm] <;> rfl) | rfl | (simp only [List.length_drop, List.length_take]; rfl)) ?_; (with_reducible refine (laws_heldIntS.calls kj17 _ _ t415 1 t416 _ ?side1 ?side2 A45.out).mono ?_); (case side1 => exact nc_ (rR6 HO_8.out).2.2); (case side2 => rw [show t415.length = t402.length from (rR6 HO_8.out).1.symm]; exact (rR6 HO_8.out).2.1); rintro e w' ⟨rfl, ⟨nd, rfl⟩⟩; refine ⟨_, rfl, ?_⟩; have hnb56 := NB388_401.out; have hnc56 := NB401_388.out; obtain ⟨hcz57_0, hcz57_1, hfz57_0, hfz57_1⟩ := cz2_ BK388.out) | ((with_reducible refine gate_callee (f := 21) rfl ?_); refine gl_ (some 59) Try.func21 #[.agg #[.int .i64 a0_0, .slice A0_1 l0_1.length c0_1]] ?_; (with_reducible refine (laws_toNet.calls kj17 a0_0 _ _ l0_1 t417 t418 _ ?side1 ?side2 A49.out).mono ?_); (case side1 => exact nc_ (Kd.C_below HR0_1.out (ne_ HB.out))); (case side2 => exact HC0_1.out); rintro e w58 ⟨v419, rfl, ho0, hb⟩; refine ⟨_, rfl, ?_⟩; have HO420 := Aside0.mk (Kd.R_lower (Kd.R_new' ho0 (Kd.R_lt (nr_ HO_402001.out))) (below_size (ne_ HB.out))); replace HO_6 := kR_ HO_6 hb; replace HO_8 := kR_ HO_8 hb; replace HO_402001 := Aside0.mk (Kd.R_elder' (nr_ HO_402001.out) (Kd.R_base ho0) hb); replace BK388 := kb_ BK388 hb; replace BK401 := kb_ BK401 hb; replace HB := kB_ HB hb; (try clear hb); (try clear hb2); (try clear hk); (try clear hi); (try clear ho0); obtain ⟨Ao59, co59, eo59⟩ := Kd.R_slice HO420.out; subst eo59) | ((with_reducible refine gate_callee (f := 29) rfl ?_); refine gl_ (some 61) Try.func29 #[.agg #[.int .i64 t417, .slice Ao59 t418.length co59], .int .i64 a1] ?_; (with_reducible refine (impl_NetOut.calls kj17 t417 _ _ t418 a1 t421 _ ?side1 ?side2 A50.out).mono ?_); (case side1 => exact nc_ (rR6 HO420.out).2.2); (case side2 => exact (rR6 HO420.out).2.1); rintro e w60 ⟨v422, rfl, ho0, hb⟩; refine ⟨_, rfl, ?_⟩; have HO423 := Aside0.mk (Kd.R_lower (Kd.R_new' (Kd.R_new' ho0 (Kd.R_lt (nr_ HO_6.out))) (Kd.R_lt (nr_ HO_8.out))) (below_size (ne_ HB.out))); replace HO_6 := Aside0.mk (Kd.R_elder' (nr_ HO_6.out) (Kd.R_base ho0) hb); replace HO_8 := Aside0.mk (Kd.R_elder' (nr_ HO_8.out) (Kd.R_base ho0) hb); replace HO_402001 := kR_ HO_402001 hb; replace HO420 := kR_ HO420 hb; replace BK388 := kb_ BK388 hb; replace BK401 := kb_ BK401 hb; replace HB := kB_ HB hb; (try clear hb); (try clear hb2); (try clear hk); (try clear hi); (try clear ho0); obtain ⟨Ao61, co61, eo61⟩ := Kd.R_slice HO423.out; subst eo61) | ((with_reducible refine gate_callee (f := 32) rfl ?_); refine gl_ (some 64) Try.func32 #[.slice Ao61 t421.length co61, .slice Ao34 t394.length co34] ?_; (with_reducible refine (laws_eqIntS.calls kj17 _ _ t421 _ _ t394 true _ ?side1 ?side2 ?side3 ?side4 A51.out).mono ?_); (case side1 => exact nc_ (rR6 HO423.out).2.2); (case side2 => exact (rR6 HO423.out).2.1); (case side3 => exact nc_ (rR6 HO_6.out).2.2); (case side4 => exact (rR6 HO_6.out).2.1); rintro e w' ⟨rfl, ⟨nd, rfl⟩⟩; refine ⟨_, rfl, ?_⟩) | ((with_reducible refine gate_callee (f := 35) rfl ?_); refine goesL_ (some 68) rfl rfl Try.func35 (by kernel_rfl) rfl #[.slice Ao33 t415.length co33, .int .i64 1] rfl (by (try simp only [List.map_toArray, List.map_cons, List.map_nil]); first | done | (rw [show t415.length = t402.length from (rR6 HO_8.out).1.symm] <;> rfl) | rfl | (simp only [List.length_drop, List.length_take]; rfl)) ?_; (with_reducible refine (laws_heldIntS.calls kj17 _ _ t415 1 t425 _ ?side1 ?side2 A53.out).mono ?_); (case side1 => exact nc_ (rR6 HO_8.out).2.2); (case side2 => rw [show t415.length = t402.length from (rR6 HO_8.out).1.symm]; exact (rR6 HO_8.out).2.1); rintro e w' ⟨rfl, ⟨nd, rfl⟩⟩; refine ⟨_, rfl, ?_⟩))
     go_ret
     exact ⟨nw_, ne_ HB.out⟩
    rw [if_neg c54] at H
    have c54b0 : decide (t425 < 0) = false := decide_eq_false c54
    clear c54
    by_cases c62 : t425 = t414
    rotate_left
    ·rw [if_neg c62] at H
     have c62b0 : (t425 == t414) = false := beq_eq_false_iff_ne.mpr c62
     have c62b1 : (t425 != t414) = true := bne_iff_ne.mpr c62
     obtain rfl := Option.some.inj H
     go_wp2_with (first | ((with_reducible refine gate_callee (f := 34) rfl ?_); refine gl_ (some 49) Try.func34 #[.slice Ao33 t402.length co33, .int .i64 1] ?_; (with_reducible refine (laws_markIntS.calls kj17 (fun k_ => some k_ = (.slice Ao33 t402.length co33 : Value).ownBlock) (.slice Ao33 t402.length co33) t402 1 t414 t415 w _ ?side1 ?side2 A44.out).mono ?_); (case side1 => exact (ne_ HB.out)); (case side2 => exact Kd.R_tight rfl HO_8.out); rintro e w70 ⟨rfl, hy0, hb, hkp⟩; refine ⟨_, rfl, ?_⟩; replace HO_6 := Aside0.mk (Kd.R_mono (ok' := fun k_ => some k_ ≠ (.slice Ao33 t402.length co33 : Value).ownBlock) (Kd.R_keptB (HO_6.out) hkp (fun k_ hk_ hs_ => (hk_) hs_)) (fun k_ hk_ => hk_.1)); replace HO_402001 := Aside0.mk (Kd.R_mono (ok' := fun k_ => True) (Kd.R_keptB ((Kd.R_apart' HO_402001.out (Kd.R_typed HO_8.out) (by decide))) hkp (fun k_ hk_ hs_ => (hk_.2) hs_)) (fun k_ hk_ => trivial)); replace BK388 := Aside0.mk (blk_kept (g := gb388) (o := .cells #[.int .i64 a0_0, .slice A0_1 l0_1.length c0_1] 24 (0, 0)) (nb_ BK388.out) hkp (fun hs_ => (fun e_ => (Kd.R_ne HO_8.out BK388.out (by decide)) e_) hs_)); replace BK401 := Aside0.mk (blk_kept (g := gb401) (o := .cells #[.int .i64 t397, .slice Ao31 t412.length co31] 29 (0, 0)) (nb_ BK401.out) hkp (fun hs_ => (fun e_ => (Kd.R_ne HO_8.out BK401.out (by decide)) e_) hs_)); replace HO_8 := Aside0.mk (Kd.R_reok rfl hy0 (fun k_ e_ => HO_8.out.1 k_ e_)); replace HB := Aside0.mk (hb); (try clear hb); (try clear hkp); (try clear hy0)) | ((with_reducible refine gate_callee (f := 35) rfl ?_); refine goesL_ (some 52) rfl rfl Try.func35 (by kernel_rfl) rfl #[.slice Ao33 t415.length co33, .int .i64 1] rfl (by (try simp only [List.map_toArray, List.map_cons, List.map_nil]); first | done | (rw [show t415.length = t402.length from (rR6 HO_8.out).1.symm] <;> rfl) | rfl | (simp only [List.length_drop, List.length_take]; rfl)) ?_; (with_reducible refine (laws_heldIntS.calls kj17 _ _ t415 1 t416 _ ?side1 ?side2 A45.out).mono ?_); (case side1 => exact nc_ (rR6 HO_8.out).2.2); (case side2 => rw [show t415.length = t402.length from (rR6 HO_8.out).1.symm]; exact (rR6 HO_8.out).2.1); rintro e w' ⟨rfl, ⟨nd, rfl⟩⟩; refine ⟨_, rfl, ?_⟩; have hnb71 := NB388_401.out; have hnc71 := NB401_388.out; obtain ⟨hcz72_0, hcz72_1, hfz72_0, hfz72_1⟩ := cz2_ BK388.out) | ((with_reducible refine gate_callee (f := 21) rfl ?_); refine gl_ (some 59) Try.func21 #[.agg #[.int .i64 a0_0, .slice A0_1 l0_1.length c0_1]] ?_; (with_reducible refine (laws_toNet.calls kj17 a0_0 _ _ l0_1 t417 t418 _ ?side1 ?side2 A49.out).mono ?_); (case side1 => exact nc_ (Kd.C_below HR0_1.out (ne_ HB.out))); (case side2 => exact HC0_1.out); rintro e w73 ⟨v419, rfl, ho0, hb⟩; refine ⟨_, rfl, ?_⟩; have HO420 := Aside0.mk (Kd.R_lower (Kd.R_new' ho0 (Kd.R_lt (nr_ HO_402001.out))) (below_size (ne_ HB.out))); replace HO_6 := kR_ HO_6 hb; replace HO_8 := kR_ HO_8 hb; replace HO_402001 := Aside0.mk (Kd.R_elder' (nr_ HO_402001.out) (Kd.R_base ho0) hb); replace BK388 := kb_ BK388 hb; replace BK401 := kb_ BK401 hb; replace HB := kB_ HB hb; (try clear hb); (try clear hb2); (try clear hk); (try clear hi); (try clear ho0); obtain ⟨Ao74, co74, eo74⟩ := Kd.R_slice HO420.out; subst eo74) | ((with_reducible refine gate_callee (f := 29) rfl ?_); refine gl_ (some 61) Try.func29 #[.agg #[.int .i64 t417, .slice Ao74 t418.length co74], .int .i64 a1] ?_; (with_reducible refine (impl_NetOut.calls kj17 t417 _ _ t418 a1 t421 _ ?side1 ?side2 A50.out).mono ?_); (case side1 => exact nc_ (rR6 HO420.out).2.2); (case side2 => exact (rR6 HO420.out).2.1); rintro e w75 ⟨v422, rfl, ho0, hb⟩; refine ⟨_, rfl, ?_⟩; have HO423 := Aside0.mk (Kd.R_lower (Kd.R_new' (Kd.R_new' ho0 (Kd.R_lt (nr_ HO_6.out))) (Kd.R_lt (nr_ HO_8.out))) (below_size (ne_ HB.out))); replace HO_6 := Aside0.mk (Kd.R_elder' (nr_ HO_6.out) (Kd.R_base ho0) hb); replace HO_8 := Aside0.mk (Kd.R_elder' (nr_ HO_8.out) (Kd.R_base ho0) hb); replace HO_402001 := kR_ HO_402001 hb; replace HO420 := kR_ HO420 hb; replace BK388 := kb_ BK388 hb; replace BK401 := kb_ BK401 hb; replace HB := kB_ HB hb; (try clear hb); (try clear hb2); (try clear hk); (try clear hi); (try clear ho0); obtain ⟨Ao76, co76, eo76⟩ := Kd.R_slice HO423.out; subst eo76) | ((with_reducible refine gate_callee (f := 32) rfl ?_); refine gl_ (some 64) Try.func32 #[.slice Ao76 t421.length co76, .slice Ao34 t394.length co34] ?_; (with_reducible refine (laws_eqIntS.calls kj17 _ _ t421 _ _ t394 true _ ?side1 ?side2 ?side3 ?side4 A51.out).mono ?_); (case side1 => exact nc_ (rR6 HO423.out).2.2); (case side2 => exact (rR6 HO423.out).2.1); (case side3 => exact nc_ (rR6 HO_6.out).2.2); (case side4 => exact (rR6 HO_6.out).2.1); rintro e w' ⟨rfl, ⟨nd, rfl⟩⟩; refine ⟨_, rfl, ?_⟩) | ((with_reducible refine gate_callee (f := 35) rfl ?_); refine goesL_ (some 68) rfl rfl Try.func35 (by kernel_rfl) rfl #[.slice Ao33 t415.length co33, .int .i64 1] rfl (by (try simp only [List.map_toArray, List.map_cons, List.map_nil]); first | done | (rw [show t415.length = t402.length from (rR6 HO_8.out).1.symm] <;> rfl) | rfl | (simp only [List.length_drop, List.length_take]; rfl)) ?_; (with_reducible refine (laws_heldIntS.calls kj17 _ _ t415 1 t425 _ ?side1 ?side2 A53.out).mono ?_); (case side1 => exact nc_ (rR6 HO_8.out).2.2); (case side2 => rw [show t415.length = t402.length from (rR6 HO_8.out).1.symm]; exact (rR6 HO_8.out).2.1); rintro e w' ⟨rfl, ⟨nd, rfl⟩⟩; refine ⟨_, rfl, ?_⟩))
     go_ret
     exact ⟨nw_, ne_ HB.out⟩
    rw [if_pos c62] at H
    have c62b0 : (t425 == t414) = true := beq_iff_eq.mpr c62
    have c62b1 : (t425 != t414) = false := bne_eq_false_iff_eq.mpr c62
    clear c62
    obtain rfl := Option.some.inj H
    go_wp2_with (first | ((with_reducible refine gate_callee (f := 34) rfl ?_); refine gl_ (some 49) Try.func34 #[.slice Ao33 t402.length co33, .int .i64 1] ?_; (with_reducible refine (laws_markIntS.calls kj17 (fun k_ => some k_ = (.slice Ao33 t402.length co33 : Value).ownBlock) (.slice Ao33 t402.length co33) t402 1 t414 t415 w _ ?side1 ?side2 A44.out).mono ?_); (case side1 => exact (ne_ HB.out)); (case side2 => exact Kd.R_tight rfl HO_8.out); rintro e w63 ⟨rfl, hy0, hb, hkp⟩; refine ⟨_, rfl, ?_⟩; replace HO_6 := Aside0.mk (Kd.R_mono (ok' := fun k_ => some k_ ≠ (.slice Ao33 t402.length co33 : Value).ownBlock) (Kd.R_keptB (HO_6.out) hkp (fun k_ hk_ hs_ => (hk_) hs_)) (fun k_ hk_ => hk_.1)); replace HO_402001 := Aside0.mk (Kd.R_mono (ok' := fun k_ => True) (Kd.R_keptB ((Kd.R_apart' HO_402001.out (Kd.R_typed HO_8.out) (by decide))) hkp (fun k_ hk_ hs_ => (hk_.2) hs_)) (fun k_ hk_ => trivial)); replace BK388 := Aside0.mk (blk_kept (g := gb388) (o := .cells #[.int .i64 a0_0, .slice A0_1 l0_1.length c0_1] 24 (0, 0)) (nb_ BK388.out) hkp (fun hs_ => (fun e_ => (Kd.R_ne HO_8.out BK388.out (by decide)) e_) hs_)); replace BK401 := Aside0.mk (blk_kept (g := gb401) (o := .cells #[.int .i64 t397, .slice Ao31 t412.length co31] 29 (0, 0)) (nb_ BK401.out) hkp (fun hs_ => (fun e_ => (Kd.R_ne HO_8.out BK401.out (by decide)) e_) hs_)); replace HO_8 := Aside0.mk (Kd.R_reok rfl hy0 (fun k_ e_ => HO_8.out.1 k_ e_)); replace HB := Aside0.mk (hb); (try clear hb); (try clear hkp); (try clear hy0)) | ((with_reducible refine gate_callee (f := 35) rfl ?_); refine goesL_ (some 52) rfl rfl Try.func35 (by kernel_rfl) rfl #[.slice Ao33 t415.length co33, .int .i64 1] rfl (by (try simp only [List.map_toArray, List.map_cons, List.map_nil]); first | done | (rw [show t415.length = t402.length from (rR6 HO_8.out).1.symm] <;> rfl) | rfl | (simp only [List.length_drop, List.length_take]; rfl)) ?_; (with_reducible refine (laws_heldIntS.calls kj17 _ _ t415 1 t416 _ ?side1 ?side2 A45.out).mono ?_); (case side1 => exact nc_ (rR6 HO_8.out).2.2); (case side2 => rw [show t415.length = t402.length from (rR6 HO_8.out).1.symm]; exact (rR6 HO_8.out).2.1); rintro e w' ⟨rfl, ⟨nd, rfl⟩⟩; refine ⟨_, rfl, ?_⟩; have hnb64 := NB388_401.out; have hnc64 := NB401_388.out; obtain ⟨hcz65_0, hcz65_1, hfz65_0, hfz65_1⟩ := cz2_ BK388.out) | ((with_reducible refine gate_callee (f := 21) rfl ?_); refine gl_ (some 59) Try.func21 #[.agg #[.int .i64 a0_0, .slice A0_1 l0_1.length c0_1]] ?_; (with_reducible refine (laws_toNet.calls kj17 a0_0 _ _ l0_1 t417 t418 _ ?side1 ?side2 A49.out).mono ?_); (case side1 => exact nc_ (Kd.C_below HR0_1.out (ne_ HB.out))); (case side2 => exact HC0_1.out); rintro e w66 ⟨v419, rfl, ho0, hb⟩; refine ⟨_, rfl, ?_⟩; have HO420 := Aside0.mk (Kd.R_lower (Kd.R_new' ho0 (Kd.R_lt (nr_ HO_402001.out))) (below_size (ne_ HB.out))); replace HO_6 := kR_ HO_6 hb; replace HO_8 := kR_ HO_8 hb; replace HO_402001 := Aside0.mk (Kd.R_elder' (nr_ HO_402001.out) (Kd.R_base ho0) hb); replace BK388 := kb_ BK388 hb; replace BK401 := kb_ BK401 hb; replace HB := kB_ HB hb; (try clear hb); (try clear hb2); (try clear hk); (try clear hi); (try clear ho0); obtain ⟨Ao67, co67, eo67⟩ := Kd.R_slice HO420.out; subst eo67) | ((with_reducible refine gate_callee (f := 29) rfl ?_); refine gl_ (some 61) Try.func29 #[.agg #[.int .i64 t417, .slice Ao67 t418.length co67], .int .i64 a1] ?_; (with_reducible refine (impl_NetOut.calls kj17 t417 _ _ t418 a1 t421 _ ?side1 ?side2 A50.out).mono ?_); (case side1 => exact nc_ (rR6 HO420.out).2.2); (case side2 => exact (rR6 HO420.out).2.1); rintro e w68 ⟨v422, rfl, ho0, hb⟩; refine ⟨_, rfl, ?_⟩; have HO423 := Aside0.mk (Kd.R_lower (Kd.R_new' (Kd.R_new' ho0 (Kd.R_lt (nr_ HO_6.out))) (Kd.R_lt (nr_ HO_8.out))) (below_size (ne_ HB.out))); replace HO_6 := Aside0.mk (Kd.R_elder' (nr_ HO_6.out) (Kd.R_base ho0) hb); replace HO_8 := Aside0.mk (Kd.R_elder' (nr_ HO_8.out) (Kd.R_base ho0) hb); replace HO_402001 := kR_ HO_402001 hb; replace HO420 := kR_ HO420 hb; replace BK388 := kb_ BK388 hb; replace BK401 := kb_ BK401 hb; replace HB := kB_ HB hb; (try clear hb); (try clear hb2); (try clear hk); (try clear hi); (try clear ho0); obtain ⟨Ao69, co69, eo69⟩ := Kd.R_slice HO423.out; subst eo69) | ((with_reducible refine gate_callee (f := 32) rfl ?_); refine gl_ (some 64) Try.func32 #[.slice Ao69 t421.length co69, .slice Ao34 t394.length co34] ?_; (with_reducible refine (laws_eqIntS.calls kj17 _ _ t421 _ _ t394 true _ ?side1 ?side2 ?side3 ?side4 A51.out).mono ?_); (case side1 => exact nc_ (rR6 HO423.out).2.2); (case side2 => exact (rR6 HO423.out).2.1); (case side3 => exact nc_ (rR6 HO_6.out).2.2); (case side4 => exact (rR6 HO_6.out).2.1); rintro e w' ⟨rfl, ⟨nd, rfl⟩⟩; refine ⟨_, rfl, ?_⟩) | ((with_reducible refine gate_callee (f := 35) rfl ?_); refine goesL_ (some 68) rfl rfl Try.func35 (by kernel_rfl) rfl #[.slice Ao33 t415.length co33, .int .i64 1] rfl (by (try simp only [List.map_toArray, List.map_cons, List.map_nil]); first | done | (rw [show t415.length = t402.length from (rR6 HO_8.out).1.symm] <;> rfl) | rfl | (simp only [List.length_drop, List.length_take]; rfl)) ?_; (with_reducible refine (laws_heldIntS.calls kj17 _ _ t415 1 t425 _ ?side1 ?side2 A53.out).mono ?_); (case side1 => exact nc_ (rR6 HO_8.out).2.2); (case side2 => rw [show t415.length = t402.length from (rR6 HO_8.out).1.symm]; exact (rR6 HO_8.out).2.1); rintro e w' ⟨rfl, ⟨nd, rfl⟩⟩; refine ⟨_, rfl, ?_⟩))
    go_ret
    exact ⟨nw_, ne_ HB.out⟩
/-- THE ONE PURE STATEMENT of laws_FnExactNetOut. -/
def laws_FnExactNetOut.Pure : Prop := ∀ (a0_0 : Int) (l0_1 : List (S101)) (a1 : Int), (Lit.int .i64 a0_0).wf = true → l0_1.length ≤ maxLen → (∀ x ∈ l0_1, (Lit.int .i64 x.f0).wf = true ∧ (Lit.int .i64 x.f1).wf = true ∧ (Lit.int .i64 x.f2).wf = true ∧ (Lit.int .i64 x.f3).wf = true ∧ (Lit.int .i64 x.f4).wf = true) → (Lit.int .i64 a1).wf = true → ∃ k, laws_FnExactNetOut.f k a0_0 l0_1 a1 = some true
theorem laws_FnExactNetOut.walk (P : laws_FnExactNetOut.Pure) (a0_0 : Int) (A0_1 : Option Addr) (c0_1 : Nat) (l0_1 : List (S101)) (a1 : Int) (w : World) (hw0_0 : (Lit.int .i64 a0_0).wf = true) (hr0_1 : Kd.C k101 w A0_1 l0_1.length l0_1) (hm0_1 : l0_1.length ≤ maxLen) (hw0_1 : ∀ x ∈ l0_1, (Lit.int .i64 x.f0).wf = true ∧ (Lit.int .i64 x.f1).wf = true ∧ (Lit.int .i64 x.f2).wf = true ∧ (Lit.int .i64 x.f3).wf = true ∧ (Lit.int .i64 x.f4).wf = true) (hc0_1 : l0_1.length ≤ c0_1) (hw1 : (Lit.int .i64 a1).wf = true) :
    Calls Try.prog 6 #[.agg #[.int .i64 a0_0, .slice A0_1 l0_1.length c0_1], .int .i64 a1] w fun e w' => e = .returned (.bool true) ∧ Below w.heap.size w w' := by
  obtain ⟨k, h⟩ := P a0_0 l0_1 a1 hw0_0 hm0_1 hw0_1 hw1
  refine (laws_FnExactNetOut.calls k a0_0 A0_1 c0_1 l0_1 a1 true w hr0_1 hc0_1 h).mono ?_
  rintro e w' ⟨rfl, hd⟩
  exact ⟨rfl, hd⟩

end Go.Proofs.Ytpjmkghmjpbldaa.Print
